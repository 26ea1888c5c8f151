import Derived.Test.YtldgmneijipbjaaGreatDoorBQ9
import Derived.Test.YtldgmneijipbjaaGreatDoorBF0
import Derived.Test.YtldgmneijipbjaaGreatDoorBMac
set_option linter.unusedVariables false
set_option linter.unusedSimpArgs false
set_option maxRecDepth 100000
set_option maxHeartbeats 16000000
namespace Go.Proofs.YtldgmneijipbjaaGreatDoor.H
open Go.RowKit Go.Shelf Go.Proofs.YtldgmneijipbjaaGreatDoorW.PrintWords Go.Proofs.YtldgmneijipbjaaGreatDoorW.PrintLast Go.Proofs.YtldgmneijipbjaaGreatDoorW.PrintMore
open PScopeOwn
theorem RRV.rows {w w':World}{x:Tr}{tv uv:Value}(h:RRV w x tv uv w'):∃At ct Au cu,tv= .slice At (qp x).length ct∧uv= .slice Au (qw x).length cu∧∀W,Below w'.heap.size w' W→Kd.C K5 W At (qp x).length ((qp x).map dA.cs)∧Kd.C K5 W Au (qw x).length ((qw x).map bV.cs):=by
 exact ad7
theorem AV {a:Int}(h:a≠0):(a != 0)=true:=by simpa using h
theorem ZB (k:Int)(s:ByteArray)(n:Int)(A:Option Addr)(m c:Nat)(w:World):Calls Tryz.prog 11 #[.agg #[.int .i64 k,.string s,.int .i64 n,.slice A m c]] w fun e w'=>e= .returned (.string s)∧Below w.heap.size w w':=by
 go_enter Tryz.func11,Tryz.ntmps11;go_wp2;go_ret;exact⟨rfl,au (Below.refl _ _) _⟩
theorem ZC (x:Tr)(hf:Fit x)(A:Option Addr)(c:Nat)(w:World)(h:Rd w x A c)(hb:(flat x).length≤1048576):
  Calls Tryz.prog 10 #[nd x A c,.slice none 0 0] w fun e w'=>∃ad c2,e= .returned (.slice (some ad) (flat x).length c2)∧(flat x).length≤c2∧Kd.C KT w' (some ad) (flat x).length (flat x)∧Below w.heap.size w w':=by
 refine(UJ x hf A c w h hb).mono ?_;rintro e w' ⟨A2,c2,ys,rfl,h1,h2,h3⟩;obtain⟨A3,c3,e3,h4,h5⟩:=Eb h1 h2 (fun k hk=>h3.block k hk);injection e3 with e1 e2 e3
 subst e1 e3;obtain⟨ad,rfl⟩:=kZ h5 (oM x);exact⟨ad,c2,rfl,h4,h5,h3⟩
theorem AX {w:World}{ad:Addr}{l:List Tr}(h:Kd.C KT w (some ad) l.length l)(ht:jU w){i:Nat}{y:Tr}(hy:l[i]?=some y):
  ∃A' c',Rd w y A' c'∧w.cell? (ad.add (i*4))=some (.int .i64 y.f0)∧w.cell? ⟨(ad.add (i*4)).block,(ad.add (i*4)).off+1,none⟩=some (.string y.f1)∧w.cell? ⟨(ad.add (i*4)).block,(ad.add (i*4)).off+2,none⟩=some (.int .i64 y.f2)∧w.cell? ⟨(ad.add (i*4)).block,(ad.add (i*4)).off+3,none⟩=some (.slice A' y.f3.length c'):=by
 obtain⟨JB,A',c',e,q⟩:=jO h ht hy
 cases e
 exact⟨A',c',q⟩
def zU (us:List bV):Nat→Int
 |0=> -1
 |i+1=>match us[i]? with
  |some u=>u.pos
  |none=>0
structure LB (w:World)(x:Tr)(A:Option Addr)(n c:Nat)(W:World):Prop where
 x0:W.cell? ⟨w.heap.size,0,none⟩=some (.int .i64 x.f0)
 x1:W.cell? ⟨w.heap.size,1,none⟩=some (.string x.f1)
 x2:W.cell? ⟨w.heap.size,2,none⟩=some (.int .i64 x.f2)
 x3:W.cell? ⟨w.heap.size,3,none⟩=some (.slice A n c)
 rd:Rd W x A c
theorem LB.make {w W:World}{x:Tr}{A:Option Addr}{n c:Nat}(hr:Rd w x A c)(h:Below (w.alloc (.cells #[.int .i64 x.f0,.string x.f1,.int .i64 x.f2,.slice A n c] 24)).heap.size (w.alloc (.cells #[.int .i64 x.f0,.string x.f1,.int .i64 x.f2,.slice A n c] 24)) W):LB w x A n c W:=by
 obtain⟨a,b,d,e,f⟩:=ji h;exact⟨a,b,d,e,hr.below f⟩
theorem LB.below {w W W':World}{x:Tr}{A:Option Addr}{n c:Nat}(h:LB w x A n c W)(hb:Below W.heap.size W W'):LB w x A n c W':=
 ⟨ak hb h.x0,ak hb h.x1,ak hb h.x2,ak hb h.x3,h.rd.below hb⟩
theorem LX (x:Tr):(fC x).uses.length≤(flat x).length:=by
 have h:=(iX x.f3 en0 (iE st0 1 0 x.f3) 1).len;have e:(iE st0 1 0 x.f3).uses=[]:=(u7 x.f3 st0 1 0).uses;rw[e]at h;unfold fC;rw[gD];simp only[List.length_nil,List.length_cons]at h⊢;omega
theorem LY {x:Tr}(h:eT x=5∨eT x=6)(he:fZ x=(fC x).uses){i:Nat}{u:bV}(hu:(fZ x)[i]?=some u):zU (fZ x) i<u.pos∧zU (fZ x) (i+1)=u.pos∧(∃p:Nat,u.pos=p∧p<(flat x).length)∧KN (flat x) u:=by
 obtain⟨h1,h2⟩:=abH h;rw[←he]at h1 h2;obtain⟨q1,q2,q3⟩:=h2 u (List.mem_of_getElem? hu);refine⟨?_,by simp only[zU,hu],⟨u.pos.toNat,aG,aG⟩,q3⟩
 cases i with
 |zero=>simp only[zU];omega
 |succ j=>
  obtain⟨hj,e⟩:=List.getElem?_eq_some_iff.1 hu;have hv:(fZ x)[j]?=some ((fZ x)[j]'aG):=List.getElem?_eq_getElem aG;simp only[zU,hv];rw[←e];exact List.pairwise_iff_getElem.1 h1 j (j+1) aG hj aG
theorem QV {G:Prop}(h:G:=by
 obtain⟨q0,q1,q2,q3,-⟩:=rA.out w2 LZ.out;refine FH ?_;intro x0 x1 x2 x3;clear q0 q1 q2 q3;go_wp2_with (go_at_call 8;refine Aside0.out ?_);refine⟨?_⟩;obtain⟨W3,hW3⟩:∃W,w2.alloc (.cells #[.slice At nt ct,.slice Au nu cu] 28)=W:=⟨_,rfl⟩;have b3:Below w2.heap.size w2 W3:=Pq;rw[hW3];have BL3:=hide (LZ.out.trans (b3.mono LZ.out.size));have B3:=hide (B2.out.trans (b3.mono B2.out.size));clear hW3 b3 x0 x1 x2 x3 B2 LZ;refine(zB.out W3 (rA.out W3 BL3.out).rd).mono ?_;rintro e w4 ⟨tv,uv,rfl,hv⟩;obtain⟨A5,c5,A6,c6,rfl,rfl,-⟩:=hv.rows;obtain⟨pr',hpr⟩:∃q,vV x=q:=⟨_,rfl⟩;obtain⟨er',her⟩:∃q,rz x=q:=⟨_,rfl⟩;obtain⟨nt',hnt⟩:∃q,(qp x).length=q:=⟨_,rfl⟩;obtain⟨nu',hnu⟩:∃q,(qw x).length=q:=⟨_,rfl⟩;rw[hpr,her,hnt,hnu];have hz':(er' != 0)=true:=AV (fun e=>HNR.out (her.trans e));have B4:=hide (B3.out.trans (hv.low.mono B3.out.size));have HT:=hide (fun(W:World) (hW:Below w4.heap.size w4 W)=>(rA.out W (BL3.out.trans ((hv.low.trans (hW.mono hv.low.size)).mono BL3.out.size))).rd.tab);clear hv hpr her hnt hnu B3 BL3 rA HNR zB;go_wp2_with (go_at_call 9;refine Aside0.out ?_);refine⟨?_⟩;have b5:=au (Below.refl w4.heap.size w4) (.cells #[.slice A5 nt' c5,.slice A6 nu' c6] 28);refine(oG _ (HT.out _ b5)).mono ?_;rintro e w9 ⟨rfl,h9⟩;have HE9:=hide (B4.out.trans ((b5.trans (h9.mono b5.size)).mono B4.out.size));clear h9 b5;go_wp2;go_ret;exact⟨rfl,HE9.out⟩):G:=h
theorem Ph (x:Tr)(hf:Fit x)(hb:(flat x).length≤1048576)(A:Option Addr)(c:Nat)(w:World)(hr:Rd w x A c):Calls Tryz.prog 3 #[nd x A c] w (aH w true):=by
 refine VI ?_;intro n hn fH zB;refine Xr ?_;intro qm;refine YD ?_;intro rA;have L8:=hide hb;clear hr hn hf hb;go_enter Tryz.func3,Tryz.ntmps3;go_wp2_with (go_at_call 7;refine Aside0.out ?_);refine⟨?_⟩;refine VJ ?_;intro W1 hW1 B1;rw[hW1]at rA⊢;clear hW1;refine(fH.out W1 (rA.out W1 (Below.refl _ _)).rd).mono ?_;rintro e w2 ⟨tv,uv,rfl,hv⟩;obtain⟨At,ct,Au,cu,rfl,rfl,hrow⟩:=hv.rows;refine UM ?_;intro B2 LZ pr hpr er her nt hnt nu hnu lq Jw;have TD:=hide hnu;have Pk:=hide hnt;clear hv hrow hpr her hnt hnu B1 fH;by_cases h0:er=0
 ·have HE:=hide (Yx (Jw.out.trans h0))
  subst h0;have akI:nu≤1048576:=by have:=LX x;rw[←HE.out.2.2.2,TD.out]at this;have:=L8.out;omega
  clear Jw zB;obtain⟨q0,q1,q2,q3,-⟩:=rA.out w2 LZ.out;refine FH ?_;intro x0 x1 x2 x3;clear q0 q1 q2 q3;go_wp2_with (go_at_call 10;refine Aside0.out ?_);refine⟨?_⟩;refine Zi ?_;intro W3 hW3 n3 b3;refine(qm.out W3 (rA.out W3 (LZ.out.trans (b3.mono LZ.out.size))).rd).mono ?_;rintro e w4 ⟨al,cl,rfl,hcl,hCL,hb4⟩;refine Y3 ?_;intro nl hnl Jy oF B4 TF
  have P_:=hide (fun(W:World) (hW:Below w4.heap.size w4 W)=>show W.cell? ⟨w2.heap.size,0,none⟩=some (.slice At nt ct)∧W.cell? ⟨w2.heap.size,1,none⟩=some (.slice Au nu cu)from by
   have m:=((hb4.trans (hW.mono hb4.size)).block _ (ay n3)).trans n3;exact⟨(aj m 0).trans rfl,(aj m 1).trans rfl⟩)
  have HU:=hide (fun(W:World) (hW:Below w4.heap.size w4 W)=>(lq.out W ((b3.trans (hb4.mono b3.size)).trans (hW.mono (b3.trans (hb4.mono b3.size)).size))).2);clear hW3 n3 b3 hCL hb4 hnl hcl B2 LZ qm lq x0 x1 x2 x3;go_wp2;obtain⟨s0,s1⟩:=P_.out w4 (Below.refl _ _);clear s0 s1;have Q0:=hide (Below.refl w4.heap.size w4);go_loopg [10,11] (nu+1) (fun gk v10 v11 wr=>∃i:Nat,i≤nu∧nu-i<gk∧v10= .int .i64 (zU (fZ x) i)∧v11= .int .i64 i∧Aside0 (Below w4.heap.size w4 wr))
  case atStart=>exact⟨0,Nat.zero_le _,aG,rfl,rfl,Q0⟩
  case round=>
   obtain⟨i,hi,lS,rfl,rfl,J⟩:=hrel;clear Q0;obtain⟨s0,s1⟩:=P_.out _ J.out;by_cases hlt:i<nu
   ·have eY:(i:Int)<(nu:Int):=aG
    refine Zm ?_;intro hi0;obtain⟨u,hu⟩:=eO (l:=fZ x) (i:=i) (by rw[TD.out];exact hlt);have hUU:=HU.out wr J.out;obtain⟨adu,rfl⟩:=kZ hUU (by rw[TD.out];omega);obtain⟨k0,k1,k2,k3,k4⟩:=zl hUU rfl hu;obtain⟨f1,f2,⟨p,fp,fl⟩,f3⟩:=LY HE.out.1 HE.out.2.2.2 hu;obtain⟨y,hy,hyn⟩:=f3.tree;have hde:=f3.decl;obtain⟨up,uk,ud,un,uy⟩:=u;obtain⟨yk,ys,yn,yl⟩:=y;simp only at k0 k1 k2 k3 k4 f1 f2 fp hy hyn;subst fp hyn;rw[Int.toNat_natCast]at hy;have HDE:=hide hde;clear hde;have HY:=hide hy;have hC2:=kL oF.out J.out;obtain⟨A',c',dR,m0,m1,m2,m3⟩:=AX hC2 (rA.out _ (TF.out.trans (J.out.mono TF.out.size))).rd.tab hy;have HF2:=hide f2;have HM:=hide (And.intro m0 (And.intro m1 (And.intro m2 m3)));have c1:decide ((p:Int)≤zU (fZ x) i)=false:=decide_eq_false aG;refine Cw ?_;intro c2 hpl hp0;obtain⟨la,hla⟩:∃q,zU (fZ x) i=q:=⟨_,rfl⟩;rw[hla]at c1⊢;clear hu hUU f1 f2 fl f3 hy hC2 dR m0 m1 m2 m3 hla;go_wp2;obtain⟨W5,KJ⟩:∃W,wr.alloc (.cells #[.int .i64 (p:Int),.int .i64 uk,.int .i64 ud,.string ys,.bool uy] 37)=W:=⟨_,rfl⟩;have n5:W5.heap[wr.heap.size]?=some (.cells #[.int .i64 (p:Int),.int .i64 uk,.int .i64 ud,.string ys,.bool uy] 37 (0,0)):=by rw[←KJ];exact aR wr _
    have B5:=hide (show Below wr.heap.size wr W5 from by rw[←KJ];exact au (Below.refl _ _) _);rw[KJ];clear KJ k0 k1 k2 k3 k4 s0 s1;have dI:=hide (fun(W:World) (hW:Below W5.heap.size W5 W)=>(hW.block _ (ay n5)).trans n5)
    have iQ:=hide (fun(W:World) (hW:Below W5.heap.size W5 W)=>show W.cell? ⟨wr.heap.size,0,none⟩=some (.int .i64 (p:Int))∧W.cell? ⟨wr.heap.size,3,none⟩=some (.string ys)∧W.cell? (al.add (p*4))=some (.int .i64 yk)∧W.cell? ⟨(al.add (p*4)).block,(al.add (p*4)).off+1,none⟩=some (.string ys)∧W.cell? ⟨(al.add (p*4)).block,(al.add (p*4)).off+2,none⟩=some (.int .i64 yn)∧W.cell? ⟨(al.add (p*4)).block,(al.add (p*4)).off+3,none⟩=some (.slice A' yl.length c')from by
     have m:=dI.out W hW;have q:=B5.out.trans (hW.mono B5.out.size);exact⟨(aj m 0).trans rfl,(aj m 3).trans rfl,ak q HM.out.1,ak q HM.out.2.1,ak q HM.out.2.2.1,ak q HM.out.2.2.2⟩)
    clear n5;have hb0:Below W5.heap.size W5 W5.drew:=bq (Below.refl _ _);refine bX (n:=22) (S:=fun w'=>w'.cell? ⟨wr.heap.size,0,none⟩=some (.int .i64 (p:Int))∧w'.cell? ⟨wr.heap.size,3,none⟩=some (.string ys)∧w'.cell? (al.add (p*4))=some (.int .i64 yk)∧w'.cell? ⟨(al.add (p*4)).block,(al.add (p*4)).off+1,none⟩=some (.string ys)∧w'.cell? ⟨(al.add (p*4)).block,(al.add (p*4)).off+2,none⟩=some (.int .i64 yn)∧w'.cell? ⟨(al.add (p*4)).block,(al.add (p*4)).off+3,none⟩=some (.slice A' yl.length c')) (ds:=[]) #[false,false,false,false,false,false,false,false,false,false,false,false,false,false,false,false,false,false,false,false,false,false] dL rfl rfl ⟨(iQ.out _ hb0).1,(iQ.out _ hb0).2.1,(iQ.out _ hb0).2.2.1,(iQ.out _ hb0).2.2.2.1,(iQ.out _ hb0).2.2.2.2.1,(iQ.out _ hb0).2.2.2.2.2⟩ (fun hHeld=>?_);obtain⟨wd,hwd⟩:∃wd,wd=W5.drew:=⟨_,rfl⟩;rw[←hwd]at hHeld⊢;have B6:=hide (show Below W5.heap.size W5 wd from gX);clear hwd hb0;refine pv 0 47 ?_;refine pv 2 49 ?_;refine tv 1 48 hHeld ?_;refine pv 3 50 ?_;refine pv 4 51 ?_;refine pv 5 52 ?_;refine pv 7 54 ?_;refine pv 8 55 ?_;refine tv 6 53 hHeld ?_;refine pv 9 56 ?_;refine pv 10 57 ?_;refine pv 11 58 ?_;refine pv 12 59 ?_;refine pv 13 60 ?_;refine pv 18 65 ?_;refine tv 14 61 hHeld ?_;refine pv 15 62 ?_;refine tv 16 63 hHeld ?_;refine tv 19 66 hHeld ?_;refine iw (i:=17) (N:=some 64) #[true,true,true,true,true,true,true,true,true,true,true,true,true,true,true,true,true,true,true,true,false,false] rfl rfl dL wN (fun K hK=>?_);refine nQ Tryz.func11 dL rfl #[.agg #[.int .i64 yk,.string ys,.int .i64 yn,.slice A' yl.length c']] Nr rfl rfl jT ?_;with_reducible refine(ZB yk ys yn A' yl.length c' _).mono ?_
    rintro e w7 ⟨rfl,h7⟩;refine⟨_,rfl,?_⟩;have B7:=hide (B6.out.trans (h7.mono B6.out.size));clear h7;refine hK.out _ _ ⟨(iQ.out _ B7.out).1,(iQ.out _ B7.out).2.1,(iQ.out _ B7.out).2.2.1,(iQ.out _ B7.out).2.2.2.1,(iQ.out _ B7.out).2.2.2.2.1,(iQ.out _ B7.out).2.2.2.2.2⟩ (fun hHeld=>?_);clear hK K;refine cK (a':=?_) ?_ ?_;rotate_left
    ·exact ZY
    refine pv 20 67 ?_;refine pv 21 68 ?_;refine dP dL ?_;have hb7:=J.out.trans ((B5.out.trans (B7.out.mono B5.out.size)).mono J.out.size);have Q2:=hide hb7;have m7:=dI.out w7 B7.out;have z0:w7.cell? ⟨wr.heap.size,0,none⟩=some (.int .i64 (p:Int)):=(aj m7 0).trans rfl;have z1:w7.cell? ⟨wr.heap.size,1,none⟩=some (.int .i64 uk):=(aj m7 1).trans rfl;have z2:w7.cell? ⟨wr.heap.size,2,none⟩=some (.int .i64 ud):=(aj m7 2).trans rfl;have z3:w7.cell? ⟨wr.heap.size,3,none⟩=some (.string ys):=(aj m7 3).trans rfl;have HC7:=hide (kL oF.out hb7);have HT7:=hide (rA.out _ (TF.out.trans (hb7.mono TF.out.size))).rd.tab;have acv:wr.heap.size<w7.heap.size:=ay m7;have HZ7:=hide acv;clear hb7 m7 iQ HM c1 c2 hpl hp0 hHeld B6 acv;by_cases h1:uk=1
    ·subst h1
     clear HDE z2;go_wp2;go_roundg (nu-i)
     case measure=>omega
     case rel=>exact⟨i+1,aG,aG,by rw[HF2.out],Nb,Q2⟩
    ·have hu1:(uk==1)=false:=Zu
     obtain⟨hd1,y,hy,y61,y63,ytx⟩:=HDE.out.resolve_left h1;obtain⟨d,rfl⟩:∃d:Nat,ud=d:=⟨ud.toNat,aG⟩;rw[Int.toNat_natCast]at hy;obtain⟨A3,c3,ahb,m0,m1,m2,m3⟩:=AX HC7.out HT7.out hy;have hdl:d<nl:=by have:=Jy.out;have:=(List.getElem?_eq_some_iff.1 hy).1;omega
     have c3':decide ((d:Int)<1)=false:=decide_eq_false aG;have c4:decide (nl≤d)=false:=decide_eq_false aG;have avk:(d:Int)<(nl:Int):=aG;have hd0:(0:Int)≤(d:Int):=aG;obtain⟨dk,ds,dn,dl⟩:=y;simp only at m0 m1 m2 m3 y61 y63 ytx;obtain⟨dn2,ahd⟩:∃q,dl.length=q:=⟨_,rfl⟩;rw[ahd]at m3;have QM:=hide ahd;clear ahd;have kC:=hide ahb;have e63:(dk==63)=false:=by simpa using y63
     have n8:=aR w7 (.cells #[.int .i64 dk,.string ds,.int .i64 dn,.slice A3 dn2 c3] 24);have b8:=au (Below.refl w7.heap.size w7) (.cells #[.int .i64 dk,.string ds,.int .i64 dn,.slice A3 dn2 c3] 24);have q1:=ak b8 z1;have q3:=ak b8 z3;have N8:=hide n8;have B8:=hide b8;by_cases vP:dk=61
     ·subst vP
      obtain⟨rfl,k,ks,rfl,hkn⟩:=y61 rfl;clear HDE y63 ytx hd1 hy h1 ahb e63 hdl hu1 n8 b8 q1 q3;have hu1:((4:Int)==1)=false:=rfl;go_wp2;obtain⟨W8,hW8⟩:∃W,w7.alloc (.cells #[.int .i64 61,.string ds,.int .i64 dn,.slice A3 dn2 c3] 24)=W:=⟨_,rfl⟩;rw[hW8]at N8 B8⊢;obtain⟨ad3,A4,c4',e4,hr4,e40,e41,e42,e43⟩:=(kC.out.below B8.out).kid (i:=0) (y:=k) rfl;obtain rfl:=e4;simp only[Nat.zero_mul,add_zero']at e40 e41 e42 e43;rw[hkn]at e41;have hpos:0<dn2:=by rw[←QM.out];simp
      have hpos':(0:Int)<(dn2:Int):=aG
      have HST:=hide (fun(W:World) (hW:Below W8.heap.size W8 W)=>show W.cell? ⟨w7.heap.size,3,none⟩=some (.slice (some ad3) dn2 c3)∧W.cell? ⟨ad3.block,ad3.off+1,none⟩=some (.string ys)∧W.cell? ⟨wr.heap.size,3,none⟩=some (.string ys)∧W.cell? ⟨wr.heap.size,1,none⟩=some (.int .i64 4)from
       ⟨ak hW ((aj N8.out 3).trans rfl),ak hW e41,ak hW (ak B8.out z3),ak hW (ak B8.out z1)⟩)
      clear hW8 hr4 e40 e41 e42 e43 z0 z1 z2 z3 m0 m1 m2 m3 hkn;have hb0:Below W8.heap.size W8 W8.drew:=bq (Below.refl _ _);refine bX (n:=13) (S:=fun w'=>w'.cell? ⟨w7.heap.size,3,none⟩=some (.slice (some ad3) dn2 c3)∧w'.cell? ⟨ad3.block,ad3.off+1,none⟩=some (.string ys)∧w'.cell? ⟨wr.heap.size,3,none⟩=some (.string ys)∧w'.cell? ⟨wr.heap.size,1,none⟩=some (.int .i64 4)) (ds:=[]) #[false,false,false,false,false,false,false,false,false,false,false,false,false] dL rfl rfl ⟨(HST.out _ hb0).1,(HST.out _ hb0).2.1,(HST.out _ hb0).2.2.1,(HST.out _ hb0).2.2.2⟩ (fun hHeld=>?_);obtain⟨wd8,hwd⟩:∃wd,wd=W8.drew:=⟨_,rfl⟩;rw[←hwd]at hHeld⊢;have B9:=hide (show Below W8.heap.size W8 wd8 from gX);clear hwd hb0;refine pv 0 98 ?_;refine pv 5 103 ?_;refine tv 1 99 hHeld ?_;refine pv 2 100 ?_;refine pv 3 101 ?_;refine tv 4 102 hHeld ?_;refine tv 6 104 hHeld ?_;refine pv 7 105 ?_;refine pv 8 106 ?_;refine pv 9 107 ?_;refine tv 10 108 hHeld ?_;refine pv 11 109 ?_;refine pv 12 110 ?_;refine dP dL ?_;have Q3:=hide (Q2.out.trans ((B8.out.trans (B9.out.mono B8.out.size)).mono Q2.out.size));clear HST hHeld hpos hpos';exact Vg
     ·have e61:(dk==61)=false:=by simpa using vP
      have htx:=ytx vP;subst htx;have Q3:=hide (Q2.out.trans (B8.out.mono Q2.out.size));clear y61 y63 ytx vP hy h1 ahb kC HDE QM hd1 N8 B8;exact Vg
   ·obtain rfl:i=nu:=aG
    have q:=rA.out _ (TF.out.trans (J.out.mono TF.out.size));have HT:=hide q.rd.tab;clear q;go_wp2_with (go_at_call 9;refine Aside0.out ?_);refine⟨?_⟩;refine(oG wr HT.out).mono ?_;rintro e w9 ⟨rfl,h9⟩;have HE9:=hide (B4.out.trans ((J.out.trans (h9.mono J.out.size)).mono B4.out.size));clear h9;go_wp2;go_ret;exact⟨rfl,HE9.out⟩
 ·have hz:(er != 0)=true:=AV h0
  have HNR:=hide (fun e=>h0 (Jw.out.symm.trans ((Jf x).2 e)));clear h0 Jw lq TD Pk qm;exact QV
theorem Ti {W:World}(x:Tr)(lx:Low x)(A:Option Addr)(c:Nat)(hr:Rd W x A c)(w:World)(hw:w=W):
  Calls Tryz.prog 3 #[nd x A c] w fun e w'=>e= .returned (.bool true)∧Below w.heap.size w w':=by
 subst hw;exact Ph x lx.fit (by have:=yw lx;omega) A c w hr
end Go.Proofs.YtldgmneijipbjaaGreatDoor.H
