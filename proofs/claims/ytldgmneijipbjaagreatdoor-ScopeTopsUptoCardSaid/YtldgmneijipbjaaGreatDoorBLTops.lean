import Derived.Test.YtldgmneijipbjaaGreatDoorBQ9
import Derived.Test.YtldgmneijipbjaaGreatDoorBF0
import Derived.Test.YtldgmneijipbjaaGreatDoorBMac
set_option linter.unusedVariables false
set_option linter.unusedSimpArgs false
set_option maxRecDepth 100000
set_option maxHeartbeats 16000000
namespace Go.Proofs.YtldgmneijipbjaaGreatDoor.H
open Go.RowKit Go.Shelf Go.Proofs.YtldgmneijipbjaaGreatDoorW.PrintWords Go.Proofs.YtldgmneijipbjaaGreatDoorW.PrintLast Go.Proofs.YtldgmneijipbjaaGreatDoorW.PrintMore
open PScopeOwn
theorem RRV.rows {w w':World}{x:Tr}{tv uv:Value}(h:RRV w x tv uv w'):∃At ct Au cu,tv= .slice At (qp x).length ct∧uv= .slice Au (qw x).length cu∧∀W,Below w'.heap.size w' W→Kd.C K5 W At (qp x).length ((qp x).map dA.cs)∧Kd.C K5 W Au (qw x).length ((qw x).map bV.cs):=by
 exact ad7
theorem AV {a:Int}(h:a≠0):(a != 0)=true:=by simpa using h
theorem ZC (x:Tr)(hf:Fit x)(A:Option Addr)(c:Nat)(w:World)(h:Rd w x A c)(hb:(flat x).length≤1048576):
  Calls Tryz.prog 10 #[nd x A c,.slice none 0 0] w fun e w'=>∃ad c2,e= .returned (.slice (some ad) (flat x).length c2)∧(flat x).length≤c2∧Kd.C KT w' (some ad) (flat x).length (flat x)∧Below w.heap.size w w':=by
 refine(UJ x hf A c w h hb).mono ?_;rintro e w' ⟨A2,c2,ys,rfl,h1,h2,h3⟩;obtain⟨A3,c3,e3,h4,h5⟩:=Eb h1 h2 (fun k hk=>h3.block k hk);injection e3 with e1 e2 e3
 subst e1 e3;obtain⟨ad,rfl⟩:=kZ h5 (oM x);exact⟨ad,c2,rfl,h4,h5,h3⟩
theorem AX {w:World}{ad:Addr}{l:List Tr}(h:Kd.C KT w (some ad) l.length l)(ht:jU w){i:Nat}{y:Tr}(hy:l[i]?=some y):
  ∃A' c',Rd w y A' c'∧w.cell? (ad.add (i*4))=some (.int .i64 y.f0)∧w.cell? ⟨(ad.add (i*4)).block,(ad.add (i*4)).off+1,none⟩=some (.string y.f1)∧w.cell? ⟨(ad.add (i*4)).block,(ad.add (i*4)).off+2,none⟩=some (.int .i64 y.f2)∧w.cell? ⟨(ad.add (i*4)).block,(ad.add (i*4)).off+3,none⟩=some (.slice A' y.f3.length c'):=by
 obtain⟨JB,A',c',e,q⟩:=jO h ht hy
 cases e
 exact⟨A',c',q⟩
structure LB (w:World)(x:Tr)(A:Option Addr)(n c:Nat)(W:World):Prop where
 x0:W.cell? ⟨w.heap.size,0,none⟩=some (.int .i64 x.f0)
 x1:W.cell? ⟨w.heap.size,1,none⟩=some (.string x.f1)
 x2:W.cell? ⟨w.heap.size,2,none⟩=some (.int .i64 x.f2)
 x3:W.cell? ⟨w.heap.size,3,none⟩=some (.slice A n c)
 rd:Rd W x A c
theorem LB.make {w W:World}{x:Tr}{A:Option Addr}{n c:Nat}(hr:Rd w x A c)(h:Below (w.alloc (.cells #[.int .i64 x.f0,.string x.f1,.int .i64 x.f2,.slice A n c] 24)).heap.size (w.alloc (.cells #[.int .i64 x.f0,.string x.f1,.int .i64 x.f2,.slice A n c] 24)) W):LB w x A n c W:=by
 obtain⟨a,b,d,e,f⟩:=ji h;exact⟨a,b,d,e,hr.below f⟩
theorem LB.below {w W W':World}{x:Tr}{A:Option Addr}{n c:Nat}(h:LB w x A n c W)(hb:Below W.heap.size W W'):LB w x A n c W':=
 ⟨ak hb h.x0,ak hb h.x1,ak hb h.x2,ak hb h.x3,h.rd.below hb⟩
theorem QV {G:Prop}(h:G:=by
 obtain⟨q0,q1,q2,q3,-⟩:=rA.out w2 LZ.out;refine FH ?_;intro x0 x1 x2 x3;clear q0 q1 q2 q3;go_wp2_with (go_at_call 8;refine Aside0.out ?_);refine⟨?_⟩;obtain⟨W3,hW3⟩:∃W,w2.alloc (.cells #[.slice At nt ct,.slice Au nu cu] 28)=W:=⟨_,rfl⟩;have b3:Below w2.heap.size w2 W3:=Pq;rw[hW3];have BL3:=hide (LZ.out.trans (b3.mono LZ.out.size));have B3:=hide (B2.out.trans (b3.mono B2.out.size));clear hW3 b3 x0 x1 x2 x3 B2 LZ;refine(zB.out W3 (rA.out W3 BL3.out).rd).mono ?_;rintro e w4 ⟨tv,uv,rfl,hv⟩;obtain⟨A5,c5,A6,c6,rfl,rfl,-⟩:=hv.rows;obtain⟨pr',hpr⟩:∃q,vV x=q:=⟨_,rfl⟩;obtain⟨er',her⟩:∃q,rz x=q:=⟨_,rfl⟩;obtain⟨nt',hnt⟩:∃q,(qp x).length=q:=⟨_,rfl⟩;obtain⟨nu',hnu⟩:∃q,(qw x).length=q:=⟨_,rfl⟩;rw[hpr,her,hnt,hnu];have hz':(er' != 0)=true:=AV (fun e=>HNR.out (her.trans e));have B4:=hide (B3.out.trans (hv.low.mono B3.out.size));have HT:=hide (fun(W:World) (hW:Below w4.heap.size w4 W)=>(rA.out W (BL3.out.trans ((hv.low.trans (hW.mono hv.low.size)).mono BL3.out.size))).rd.tab);clear hv hpr her hnt hnu B3 BL3 rA HNR zB;go_wp2_with (go_at_call 9;refine Aside0.out ?_);refine⟨?_⟩;have b5:=au (Below.refl w4.heap.size w4) (.cells #[.slice A5 nt' c5,.slice A6 nu' c6] 28);refine(oG _ (HT.out _ b5)).mono ?_;rintro e w9 ⟨rfl,h9⟩;have HE9:=hide (B4.out.trans ((b5.trans (h9.mono b5.size)).mono B4.out.size));clear h9 b5;go_wp2;go_ret;exact⟨rfl,HE9.out⟩):G:=h
theorem acw:(Tryz.prog.info? 3).map (fun i=>(i.zero,i.size,i.bytes))=some (some (.int .i64 0),1,8):=dL
def atL (l:List Tr)(i:Nat):List Int:=(List.range (l.length+1)).map fun j=>if j≤i then 1+zL (l.take j)else 0
theorem acy {l:List Tr}{i j:Nat}(hj:j≤l.length)(hi:j≤i):iq 0 (atL l i) (j:Int)=1+zL (l.take j):=by
 unfold iq atL;rw[Int.toNat_natCast,List.getD_eq_getElem?_getD,List.getElem?_map,List.getElem?_range aG];simp[hi]
theorem ZM (l:List Tr):(List.replicate (l.length+1) (0:Int)).set 0 1=atL l 0:=by
 unfold atL;apply List.ext_getElem?;intro j;rw[List.getElem?_set,List.getElem?_map];by_cases hj:j<l.length+1
 ·rw[List.getElem?_range hj]
  cases j with
  |zero=>simp[zL,aM]
  |succ j=>rw[if_neg aG,List.getElem?_replicate,if_pos hj];simp
 ·have h1:(List.range (l.length+1))[j]?=none:=by rw[List.getElem?_eq_none_iff];simp;omega
  rw[h1,if_neg aG,List.getElem?_eq_none_iff.2 Oi];rfl
theorem ZN {l:List Tr}{i:Nat}(hi:i<l.length):(atL l i).set (i+1) (1+zL (l.take (i+1)))=atL l (i+1):=by
 unfold atL;apply List.ext_getElem?;intro j;rw[List.getElem?_set,List.getElem?_map,List.getElem?_map,List.length_map,List.length_range];by_cases hj:j<l.length+1
 ·rw[List.getElem?_range hj]
  by_cases e:i+1=j
  ·subst e;simp[hj]
  ·rw[if_neg e]
   simp only[Option.map_some];by_cases h:j≤i
   ·rw[if_pos h,if_pos aG]
   ·rw[if_neg h,if_neg aG]
 ·have h1:(List.range (l.length+1))[j]?=none:=by rw[List.getElem?_eq_none_iff];simp;omega
  rw[h1,if_neg aG];rfl
theorem akJ {α:Type}{d:Kd α}{e base b:Nat}{ok:Nat→Prop}{v:Value}{xs:List α}{w:World}(h:d.R e w base ok v xs)(hb:v.ownBlock=some b):∃cap,v= .slice (some ⟨b,0,none⟩) xs.length cap:=by
 obtain⟨_,inner,⟨_,h2⟩,_⟩:=h;rcases h2 with⟨rfl,_⟩|⟨g,cap,cur,rfl,_⟩
 ·simp[Value.ownBlock]at hb
 ·simp[Value.ownBlock]at hb
  subst hb;exact⟨cap,rfl⟩
structure AT (w4:World)(gs cs n:Nat)(l:List Tr)(i:Nat)(wr:World):Prop where
 row:(Kd.int .i64).R 3 wr w4.heap.size (fun k=>w4.heap.size≤k) (.slice (some ⟨gs,0,none⟩) (n+1) cs) (atL l i)
 low:Below w4.heap.size w4 wr
 len:l.length=n
section
variable {w4 wr W:World} {gs cs n i j:Nat} {l:List Tr}
theorem AT.cell (h:AT w4 gs cs n l i wr)(hj:j≤n)(hi:j≤i):wr.cell? ⟨gs,j,none⟩=some (.int .i64 (1+zL (l.take j))):=by
 have:=(Kd.Ak 0 h.row (j:Int) aG aG).1;rw[Int.toNat_natCast,acy (by rw[h.len];exact hj) hi]at this;exact this
theorem AT.any (h:AT w4 gs cs n l i wr)(hj:j≤n):(∃u,wr.cell? ⟨gs,j,none⟩=some u)∧wr.frozen? ⟨gs,j,none⟩=false:=by
 have:=Kd.Ak 0 h.row (j:Int) aG aG;rw[Int.toNat_natCast]at this;exact⟨⟨_,this.1⟩,this.2⟩
theorem AT.below (h:AT w4 gs cs n l i wr)(hb:Below wr.heap.size wr W):AT w4 gs cs n l i W:=⟨Kd.bS h.row hb,h.low.trans (hb.mono h.low.size),h.len⟩
theorem AT.put (h:AT w4 gs cs n l i wr)(hi:i<n):AT w4 gs cs n l (i+1) (wr.setCell ⟨gs,i+1,none⟩ (.int .i64 (1+zL (l.take (i+1))))):=by
 obtain⟨hp,-⟩:=Kd.T_ h.row ((i+1:Nat):Int) (1+zL (l.take (i+1)));rw[Int.toNat_natCast,ZN (by rw[h.len];exact hi)]at hp;exact⟨hp,h.low.setCell (p:=⟨gs,i+1,none⟩) (h.row.1 gs rfl) _,h.len⟩
end
theorem AT.zero {w4 w5:World}{gs cs n:Nat}{l:List Tr}(h:(Kd.int .i64).R 3 w5 w4.heap.size (fun k=>w4.heap.size≤k) (.slice (some ⟨gs,0,none⟩) (n+1) cs) (List.replicate (n+1) 0))(hb:Below w4.heap.size w4 w5)(hl:l.length=n):
  (w5.cell? ⟨gs,0,none⟩=some (.int .i64 0)∧w5.frozen? ⟨gs,0,none⟩=false)∧AT w4 gs cs n l 0 (w5.setCell ⟨gs,0,none⟩ (.int .i64 1)):=by
 have hc:=Kd.Ak 0 h (0:Int) aG aG;obtain⟨hp,-⟩:=Kd.T_ h (0:Int) 1;rw[show(0:Int).toNat=0 from rfl]at hc hp;have e:iq 0 (List.replicate (n+1) (0:Int)) 0=0:=by unfold iq;simp
 rw[e]at hc;rw[←hl,ZM l,hl]at hp;exact⟨hc,hp,hb.setCell (p:=⟨gs,0,none⟩) (h.1 gs rfl) _,hl⟩
theorem L_ (x:Tr):(fC x).aN.length≤(flat x).length:=by
 have h:=(u7 x.f3 st0 1 0).aN;unfold fC;rw[(iX x.f3 en0 _ 1).aN,gD];have e:st0.aN.length=0:=rfl;simp only[List.length_cons];omega
theorem Pn {x:Tr}(h:eT x=5∨eT x=6)(he:ig x=(fC x).aN){i:Nat}{t:dA}(ht:(ig x)[i]?=some t):
  (∃p:Nat,t.pos=p∧1≤p∧p<(flat x).length)∧(∃y,(flat x)[t.pos.toNat]?=some y∧y.f0=t.kind)∧(∃j:Nat,t.item=j∧j<x.f3.length∧1+zL (x.f3.take j)≤t.pos∧t.pos<1+zL (x.f3.take (j+1)))∧
   ∀(k:Nat) (s:dA),k<i→(ig x)[k]?=some s→s.name≠t.name∧s.pos<t.pos:=by
 have hT:=Ib h;rw[←he]at hT;obtain⟨h1,h2,j,h3,h4,h5,h6⟩:=hT.all t (List.mem_of_getElem? ht);have hp:=h1.pos;obtain⟨y,q1,q2,-⟩:=h1.tree;refine⟨⟨t.pos.toNat,aG,aG,aG⟩,⟨y,q1,q2⟩,⟨j,h3,h4,h5,h6⟩,fun k s hk hs=>?_⟩;obtain⟨hi,e⟩:=List.getElem?_eq_some_iff.1 ht;obtain⟨hk2,e2⟩:=List.getElem?_eq_some_iff.1 hs;rw[←e,←e2];exact⟨List.pairwise_iff_getElem.1 hT.nod k i hk2 hi hk,List.pairwise_iff_getElem.1 hT.inc k i hk2 hi hk⟩
theorem Tj (x:Tr)(hf:Fit x)(hb:(flat x).length≤1048576)(A:Option Addr)(c:Nat)(w:World)(hr:Rd w x A c):Calls Tryz.prog 4 #[nd x A c] w (aH w true):=by
 refine VI ?_;intro n hn fH zB;refine Xr ?_;intro qm;have ZO:=hide hf;have HN:=hide hn;refine YD ?_;intro rA;have L8:=hide hb;have hnb:n≤1048576:=by have:=jY x.f3;rw[gD,List.length_cons]at hb;omega
 clear hr hn hf hb;go_enter Tryz.func4,Tryz.ntmps4;go_wp2_with (go_at_call 7;refine Aside0.out ?_);refine⟨?_⟩;refine VJ ?_;intro W1 hW1 B1;rw[hW1]at rA⊢;clear hW1;refine(fH.out W1 (rA.out W1 (Below.refl _ _)).rd).mono ?_;rintro e w2 ⟨tv,uv,rfl,hv⟩;obtain⟨At,ct,Au,cu,rfl,rfl,hrow⟩:=hv.rows;refine UM ?_;intro B2 LZ pr hpr er her nt hnt nu hnu lq Jw;have Pk:=hide hnt;clear hv hrow hpr her hnt hnu B1 fH;by_cases h0:er=0
 ·have HE:=hide (Yx (Jw.out.trans h0))
  subst h0;have akK:nt≤1048576:=by have:=L_ x;rw[←HE.out.2.2.1,Pk.out]at this;have:=L8.out;omega
  clear Jw zB;obtain⟨q0,q1,q2,q3,-⟩:=rA.out w2 LZ.out;refine FH ?_;intro x0 x1 x2 x3;clear q0 q1 q2 q3;go_wp2_with (go_at_call 10;refine Aside0.out ?_);refine⟨?_⟩;refine Zi ?_;intro W3 hW3 n3 b3;refine(qm.out W3 (rA.out W3 (LZ.out.trans (b3.mono LZ.out.size))).rd).mono ?_;rintro e w4 ⟨al,cl,rfl,hcl,hCL,hb4⟩;refine Y3 ?_;intro nl hnl Jy oF B4 TF
  have P_:=hide (fun(W:World) (hW:Below w4.heap.size w4 W)=>show W.cell? ⟨w2.heap.size,0,none⟩=some (.slice At nt ct)from by
   have m:=((hb4.trans (hW.mono hb4.size)).block _ (ay n3)).trans n3;exact(aj m 0).trans rfl)
  have HU:=hide (fun(W:World) (hW:Below w4.heap.size w4 W)=>(lq.out W ((b3.trans (hb4.mono b3.size)).trans (hW.mono (b3.trans (hb4.mono b3.size)).size))).1);have HX3:=hide (fun(W:World) (hW:Below w4.heap.size w4 W)=>rA.out W (TF.out.trans (hW.mono TF.out.size)));clear hW3 n3 b3 hCL hb4 hnl hcl B2 LZ qm lq x0 x1 x2 x3 rA TF;have x3:=(HX3.out w4 (Below.refl _ _)).x3;have hn1:wrap64 ((n:Int)+1)=((n+1:Nat):Int):=zy;go_wp2_with (((with_reducible refine iY (N:=40) rfl ?_);refine Aside0.out ?_));refine⟨?_⟩;refine Kd.aeM (Kd.int .i64) (w0:=w4) w4.heap.size 3 rfl (N:=40) rfl 40 _ _ rfl _ rfl rfl Tryz.underlying40 (.int .i64 0) 8 acw rfl wN aG (0:Int) (ok:=fun k=>w4.heap.size≤k) (okp:=fun k=>w4.heap.size≤k) rfl (fun _ hk=>hk) (Nat.le_refl _) aG aG (Below.refl _ _) (Nat.le_refl _) ?_;intro v1 w5 h1 h2 h3 h4;rw[show((n:Int)+1).toNat=n+1 from aG]at h1;obtain⟨gs,h4,h5⟩:=h4;obtain⟨cs,rfl⟩:=akJ h1 h4;rw[List.length_replicate]at h1 h4⊢;obtain⟨⟨z0,z1⟩,hAT⟩:=AT.zero h1 h2 HN.out;have A0:=hide hAT;clear h1 h2 h3 h4 h5 hAT x3 hn1;go_wp2;go_loopg [11] (n+1) (fun gk v11 wr=>∃i:Nat,i≤n∧n-i<gk∧v11= .int .i64 i∧Aside0 (AT w4 gs cs n x.f3 i wr))
  case atStart=>exact⟨0,Nat.zero_le _,aG,rfl,A0⟩
  case round=>
   obtain⟨i,hi,lS,rfl,J⟩:=hrel;clear A0 z0 z1;have x3:=(HX3.out wr J.out.low).x3;by_cases hlt:i<n
   ·have eY:(i:Int)<(n:Int):=aG
    refine Zm ?_;intro hi0;obtain⟨y,hy⟩:=eO (l:=x.f3) (i:=i) mV;obtain⟨ad,A',c',rfl,dR,k0,k1,k2,k3⟩:=(HX3.out wr J.out.low).rd.kid hy;have k4:=J.out.cell (j:=i) aG (Nat.le_refl _)
    have hsum:1+zL (x.f3.take (i+1))=1+zL (x.f3.take i)+sz y:=by
     have ht:x.f3.take (i+1)=x.f3.take i++[y]:=by rw[List.take_succ_eq_append_getElem mV,(List.getElem?_eq_some_iff.1 hy).2]
     rw[ht,Xx,pK,Ia];omega
    have af6:(flat y).length≤1048576:=by
     have h1:=congrArg List.length (xA hy);have:=L8.out;simp only[List.length_append,List.length_cons]at h1;omega
    have hzl:zL (x.f3.take i)+1≤1048576:=by
     have h1:=congrArg List.length (xA hy);have:=L8.out;simp only[List.length_append,List.length_cons]at h1;unfold zL;omega
    have hzn:=lQ (x.f3.take i);have hyn:=wE y;have hyl:sz y≤1048576:=Cx;obtain⟨a,ha⟩:∃a,1+zL (x.f3.take i)=a:=⟨_,rfl⟩;obtain⟨b,hb⟩:∃b,sz y=b:=⟨_,rfl⟩
    have lW:=hide (fun(W:World) (h:Below wr.heap.size wr W)=>show Calls Tryz.prog 12 #[.agg #[.int .i64 y.f0,.string y.f1,.int .i64 y.f2,.slice A' y.f3.length c']] W (Qh W b)from by
     rw[←hb];exact mY y (ZO.out.kid (bZ hy)) aG A' c' W (dR.below h).kids dR.cap)
    rw[ha]at k4 hsum;rw[hb]at hsum hyn hyl;have hlt2:(i:Int)+1<(n:Int)+1:=aG;have hlt3:(i:Int)<(n:Int)+1:=aG;have hi1:(0:Int)≤(i:Int)+1:=aG;have hw1:wrap64 (a+b)=a+b:=zy;have hw2:wrap64 ((i:Int)+1)=(i:Int)+1:=zy;have ap0:=hide hsum;clear hsum af6 hzl hzn ha hb hy dR hyn hyl
    have iQ:=hide (fun(W:World) (hW:Below wr.heap.size wr W)=>show W.cell? ⟨w.heap.size,3,none⟩=some (.slice (some ad) n c)∧W.cell? (ad.add (i*4))=some (.int .i64 y.f0)∧W.cell? ⟨(ad.add (i*4)).block,(ad.add (i*4)).off+1,none⟩=some (.string y.f1)∧W.cell? ⟨(ad.add (i*4)).block,(ad.add (i*4)).off+2,none⟩=some (.int .i64 y.f2)∧W.cell? ⟨(ad.add (i*4)).block,(ad.add (i*4)).off+3,none⟩=some (.slice A' y.f3.length c')∧W.cell? ⟨gs,i,none⟩=some (.int .i64 a)from
     ⟨(HX3.out W (J.out.low.trans (hW.mono J.out.low.size))).x3,ak hW k0,ak hW k1,ak hW k2,ak hW k3,ak hW k4⟩)
    clear k0 k1 k2 k3 k4;go_wp2;clear x3;have hb0:Below wr.heap.size wr wr.drew:=bq (Below.refl _ _);refine bX (n:=16) (S:=fun w'=>w'.cell? ⟨w.heap.size,3,none⟩=some (.slice (some ad) n c)∧w'.cell? (ad.add (i*4))=some (.int .i64 y.f0)∧w'.cell? ⟨(ad.add (i*4)).block,(ad.add (i*4)).off+1,none⟩=some (.string y.f1)∧w'.cell? ⟨(ad.add (i*4)).block,(ad.add (i*4)).off+2,none⟩=some (.int .i64 y.f2)∧w'.cell? ⟨(ad.add (i*4)).block,(ad.add (i*4)).off+3,none⟩=some (.slice A' y.f3.length c')∧w'.cell? ⟨gs,i,none⟩=some (.int .i64 a)) (ds:=[15]) #[false,false,false,false,false,false,false,false,false,false,false,false,false,false,false,false] dL rfl rfl ⟨(iQ.out _ hb0).1,(iQ.out _ hb0).2.1,(iQ.out _ hb0).2.2.1,(iQ.out _ hb0).2.2.2.1,(iQ.out _ hb0).2.2.2.2.1,(iQ.out _ hb0).2.2.2.2.2⟩ (fun hHeld=>?_);obtain⟨wd,hwd⟩:∃wd,wd=wr.drew:=⟨_,rfl⟩;rw[←hwd]at hHeld⊢;have B6:=hide (show Below wr.heap.size wr wd from gX);clear hwd hb0;refine pv 0 50 ?_;refine pv 1 51 ?_;refine pv 2 52 ?_;refine pv 3 53 ?_;refine pv 4 54 ?_;refine pv 5 55 ?_;refine pv 7 57 ?_;refine pv 9 59 ?_;refine tv 6 56 hHeld ?_;refine tv 8 58 hHeld ?_;refine pv 10 60 ?_;refine tv 11 61 hHeld ?_;refine iw (i:=12) (N:=some 62) #[true,true,true,true,true,true,true,true,true,true,true,true,true,false,false,false] rfl rfl dL wN (fun K hK=>?_);refine nQ Tryz.func12 dL rfl #[.agg #[.int .i64 y.f0,.string y.f1,.int .i64 y.f2,.slice A' y.f3.length c']] Nr rfl rfl jT ?_;with_reducible refine(lW.out _ B6.out).mono ?_
    rintro e w7 ⟨rfl,h7⟩;refine⟨_,rfl,?_⟩;have B7:=hide (B6.out.trans (h7.mono B6.out.size));have A7:=hide (J.out.below B7.out);obtain⟨⟨u9,p0⟩,r0⟩:=A7.out.any (j:=i+1) aG;clear h7;refine hK.out _ _ ⟨(iQ.out _ B7.out).1,(iQ.out _ B7.out).2.1,(iQ.out _ B7.out).2.2.1,(iQ.out _ B7.out).2.2.2.1,(iQ.out _ B7.out).2.2.2.2.1,(iQ.out _ B7.out).2.2.2.2.2⟩ (fun hHeld=>?_);clear hK K;refine cK (a':=?_) ?_ ?_;rotate_left
    ·exact Kj
    refine pv 13 63 ?_;refine pv 14 64 ?_;refine eF (i:=15) (N:=none) #[true,true,true,true,true,true,true,true,true,true,true,true,true,true,true,true] rfl rfl dL wN (fun K hK=>?_);refine gy (w1:=?_) Nr rfl ?_ ?_;rotate_left
    ·go_simp
     rfl
    clear p0 r0;refine hK.out _ _ ?_;clear hK K;refine dP dL ?_;have A8:=A7.out.put (by omega:i<n);rw[ap0.out]at A8;have Q2:=hide A8;clear A8 iQ hHeld hw1 hw2 hlt2 hlt3 hi1 eY hi0 B6;go_wp2;exact aeb
   ·obtain rfl:n=i:=aG
    obtain⟨w6,rfl⟩:∃q,q=wr:=⟨_,rfl⟩;have J6:=hide J.out;clear J;go_wp2;have Q0:=hide (Below.refl w6.heap.size w6);clear x3;go_loopg [12] (nt+1) (fun gk v12 wr=>∃i:Nat,i≤nt∧nt-i<gk∧v12= .int .i64 i∧Aside0 (Below w6.heap.size w6 wr))
    case atStart=>exact⟨0,Nat.zero_le _,aG,rfl,Q0⟩
    case round=>
     obtain⟨i,hi,lS,rfl,J⟩:=hrel;clear Q0;have hlow:=J6.out.low.trans (J.out.mono J6.out.low.size);have tF:=hide hlow;have s0:=P_.out wr hlow;by_cases hlt:i<nt
     ·have eY:(i:Int)<(nt:Int):=aG
      refine Zm ?_;intro hi0;obtain⟨t,ht⟩:=eO (l:=ig x) (i:=i) (by rw[Pk.out];exact hlt);have hUU:=HU.out wr hlow;obtain⟨Ol,rfl⟩:=kZ hUU (by rw[Pk.out];omega);obtain⟨k0,k1,k2,k3,k4⟩:=zh hUU rfl ht;obtain⟨⟨p,fp,fp1,fpl⟩,⟨y,hy,hyk⟩,⟨j,fj,fjl,flo,fhi⟩,fall⟩:=Pn HE.out.1 HE.out.2.2.1 ht;obtain⟨tn,tk,tp,ti,tc⟩:=t;obtain⟨yk,ys,yn,yl⟩:=y;simp only at k0 k1 k2 k3 k4 fp hy hyk fj flo fhi fall;subst fp fj hyk;rw[Int.toNat_natCast]at hy;have wG:=hide fall;obtain⟨A',c',dR,m0,m1,m2,m3⟩:=AX (kL oF.out hlow) (HX3.out wr hlow).rd.tab hy;have hA6:=J6.out.below J.out;rw[HN.out]at fjl;have a0:=hA6.cell (j:=j) aG aG;have a1:=hA6.cell (j:=j+1) aG aG;obtain⟨lo,hlo⟩:∃q,1+zL (x.f3.take j)=q:=⟨_,rfl⟩;obtain⟨hi2,hhi⟩:∃q,1+zL (x.f3.take (j+1))=q:=⟨_,rfl⟩;rw[hlo]at a0 flo;rw[hhi]at a1 fhi;have c1:decide ((p:Int)<1)=false:=decide_eq_false aG;refine Cw ?_;intro c2 hpl hp0;have c3:decide ((j:Int)<0)=false:=decide_eq_false aG;have c4:decide (n≤j)=false:=decide_eq_false aG;have c5:decide ((p:Int)<lo)=false:=decide_eq_false aG;have c6:decide (hi2≤(p:Int))=false:=decide_eq_false aG;have hj0:(0:Int)≤(j:Int):=aG;have hj1:(j:Int)<(n:Int)+1:=aG;have hj2:(j:Int)+1<(n:Int)+1:=aG;have hj3:(0:Int)≤(j:Int)+1:=aG;have hw2:wrap64 ((j:Int)+1)=(j:Int)+1:=zy;have HM:=hide (And.intro m0 (And.intro (HX3.out wr hlow).x3 (And.intro a0 a1)));clear ht hUU fp1 fpl hy fjl flo fhi fall m0 m1 m2 m3 dR hA6 a0 a1 hlo hhi hlow;go_wp2;obtain⟨W7,wP⟩:∃W,wr.alloc (.cells #[.string tn,.int .i64 yk,.int .i64 (p:Int),.int .i64 (j:Int),.bool tc] 43)=W:=⟨_,rfl⟩;have n7:W7.heap[wr.heap.size]?=some (.cells #[.string tn,.int .i64 yk,.int .i64 (p:Int),.int .i64 (j:Int),.bool tc] 43 (0,0)):=by rw[←wP];exact aR wr _
      have B7:=hide (show Below wr.heap.size wr W7 from by rw[←wP];exact au (Below.refl _ _) _);rw[wP];clear wP k0 k1 k2 k3 k4 s0;have dI:=hide (fun(W:World) (hW:Below W7.heap.size W7 W)=>(hW.block _ (ay n7)).trans n7)
      have iQ:=hide (fun(W:World) (hW:Below W7.heap.size W7 W)=>show W.cell? ⟨wr.heap.size,1,none⟩=some (.int .i64 yk)∧W.cell? ⟨wr.heap.size,2,none⟩=some (.int .i64 (p:Int))∧W.cell? ⟨wr.heap.size,3,none⟩=some (.int .i64 (j:Int))∧W.cell? (al.add (p*4))=some (.int .i64 yk)∧W.cell? ⟨w.heap.size,3,none⟩=some (.slice A n c)∧W.cell? ⟨gs,j,none⟩=some (.int .i64 lo)∧W.cell? ⟨gs,j+1,none⟩=some (.int .i64 hi2)from by
       have m:=dI.out W hW;have q:=B7.out.trans (hW.mono B7.out.size);exact⟨(aj m 1).trans rfl,(aj m 2).trans rfl,(aj m 3).trans rfl,ak q HM.out.1,ak q HM.out.2.1,ak q HM.out.2.2.1,ak q HM.out.2.2.2⟩)
      clear n7;have hb0:Below W7.heap.size W7 W7.drew:=bq (Below.refl _ _);refine bX (n:=55) (S:=fun w'=>w'.cell? ⟨wr.heap.size,1,none⟩=some (.int .i64 yk)∧w'.cell? ⟨wr.heap.size,2,none⟩=some (.int .i64 (p:Int))∧w'.cell? ⟨wr.heap.size,3,none⟩=some (.int .i64 (j:Int))∧w'.cell? (al.add (p*4))=some (.int .i64 yk)∧w'.cell? ⟨w.heap.size,3,none⟩=some (.slice A n c)∧w'.cell? ⟨gs,j,none⟩=some (.int .i64 lo)∧w'.cell? ⟨gs,j+1,none⟩=some (.int .i64 hi2)) (ds:=[]) #[false,false,false,false,false,false,false,false,false,false,false,false,false,false,false,false,false,false,false,false,false,false,false,false,false,false,false,false,false,false,false,false,false,false,false,false,false,false,false,false,false,false,false,false,false,false,false,false,false,false,false,false,false,false,false] dL rfl rfl ⟨(iQ.out _ hb0).1,(iQ.out _ hb0).2.1,(iQ.out _ hb0).2.2.1,(iQ.out _ hb0).2.2.2.1,(iQ.out _ hb0).2.2.2.2.1,(iQ.out _ hb0).2.2.2.2.2.1,(iQ.out _ hb0).2.2.2.2.2.2⟩ (fun hHeld=>?_);obtain⟨wd7,hwd⟩:∃wd,wd=W7.drew:=⟨_,rfl⟩;rw[←hwd]at hHeld⊢;have B8:=hide (show Below W7.heap.size W7 wd7 from gX);clear hwd hb0;refine pv 0 77 ?_;refine tv 1 78 hHeld ?_;refine pv 2 79 ?_;refine pv 3 80 ?_;refine pv 4 81 ?_;refine pv 6 83 ?_;refine pv 7 84 ?_;refine tv 5 82 hHeld ?_;refine pv 8 85 ?_;refine pv 9 86 ?_;refine pv 10 87 ?_;refine pv 11 88 ?_;refine pv 12 89 ?_;refine pv 17 94 ?_;refine tv 13 90 hHeld ?_;refine pv 14 91 ?_;refine pv 15 92 ?_;refine tv 16 93 hHeld ?_;refine tv 18 95 hHeld ?_;refine pv 19 96 ?_;refine pv 20 97 ?_;refine pv 21 98 ?_;refine pv 22 99 ?_;refine tv 23 100 hHeld ?_;refine pv 24 101 ?_;refine pv 25 102 ?_;refine pv 26 103 ?_;refine pv 27 104 ?_;refine pv 29 106 ?_;refine tv 28 105 hHeld ?_;refine tv 30 107 hHeld ?_;refine pv 31 108 ?_;refine pv 32 109 ?_;refine pv 33 110 ?_;refine pv 34 111 ?_;refine pv 35 112 ?_;refine pv 37 114 ?_;refine pv 38 115 ?_;refine tv 36 113 hHeld ?_;refine tv 39 116 hHeld ?_;refine pv 40 117 ?_;refine tv 41 118 hHeld ?_;refine pv 42 119 ?_;refine pv 43 120 ?_;refine pv 44 121 ?_;refine pv 45 122 ?_;refine pv 47 124 ?_;refine pv 48 125 ?_;refine tv 46 123 hHeld ?_;refine tv 49 126 hHeld ?_;refine pv 50 127 ?_;refine pv 51 128 ?_;refine tv 52 129 hHeld ?_;refine pv 53 130 ?_;refine pv 54 131 ?_;refine dP dL ?_;have b78:=B7.out.trans (B8.out.mono B7.out.size);have BW:=hide (J.out.trans (b78.mono J.out.size));have HLW:=hide (tF.out.trans (b78.mono tF.out.size));have pV:=hide (fun(W:World) (hW:Below wd7.heap.size wd7 W)=>dI.out W (B8.out.trans (hW.mono B8.out.size)));clear b78 iQ HM c1 c2 hpl hp0 c3 c4 c5 c6 hj0 hj1 hj2 hj3 hw2 hHeld dI B7 B8 J tF;obtain⟨w8,rfl⟩:∃q,q=wr:=⟨_,rfl⟩;obtain⟨bx,hbx⟩:∃q,w8.heap.size=q:=⟨_,rfl⟩;rw[hbx]at pV⊢;clear hbx;have Q1:=hide (Below.refl wd7.heap.size wd7);go_wp2;go_loopg [14] (i+1) (fun gk v14 wr=>∃k:Nat,k≤i∧i-k<gk∧v14= .int .i64 k∧Aside0 (Below wd7.heap.size wd7 wr))
      case atStart=>exact⟨0,aG,aG,rfl,Q1⟩
      case round=>
       obtain⟨k,hk,avo,rfl,JK⟩:=hrel;clear Q1;by_cases hkl:k<i
       ·have avp:(k:Int)<(i:Int):=aG
        have hk0:(0:Int)≤(k:Int):=aG;have hkn:(k:Int)<(nt:Int):=aG;obtain⟨s,hs⟩:=eO (l:=ig x) (i:=k) (by rw[Pk.out];omega);obtain⟨f1,f2⟩:=wG.out k s hkl hs;have hlk:=HLW.out.trans (JK.out.mono HLW.out.size);obtain⟨k0,k1,k2,k3,k4⟩:=zh (HU.out wr hlk) rfl hs;have m:=pV.out wr JK.out;obtain⟨sn,sk,sp,si,sc⟩:=s;simp only at k0 k1 k2 k3 k4 f1 f2;have e1:(sn.toList==tn.toList)=false:=beq_eq_false_iff_ne.2 (fun e=>f1 (str_eq.1 e));have c7:decide ((p:Int)≤sp)=false:=decide_eq_false aG
        have HSK:=hide (fun(W:World) (hW:Below wr.heap.size wr W)=>show W.cell? ⟨w2.heap.size,0,none⟩=some (.slice (some Ol) nt ct)∧W.cell? (Ol.add (k*5))=some (.string sn)∧W.cell? ⟨(Ol.add (k*5)).block,(Ol.add (k*5)).off+2,none⟩=some (.int .i64 sp)∧W.cell? ⟨bx,0,none⟩=some (.string tn)∧W.cell? ⟨bx,2,none⟩=some (.int .i64 (p:Int))from
         ⟨P_.out W (hlk.trans (hW.mono hlk.size)),ak hW k0,ak hW k2,ak hW ((aj m 0).trans rfl),ak hW ((aj m 2).trans rfl)⟩)
        clear hs f1 f2 hlk k0 k1 k2 k3 k4 m;go_wp2;have hb0:Below wr.heap.size wr wr.drew:=bq (Below.refl _ _);refine bX (n:=20) (S:=fun w'=>w'.cell? ⟨w2.heap.size,0,none⟩=some (.slice (some Ol) nt ct)∧w'.cell? (Ol.add (k*5))=some (.string sn)∧w'.cell? ⟨(Ol.add (k*5)).block,(Ol.add (k*5)).off+2,none⟩=some (.int .i64 sp)∧w'.cell? ⟨bx,0,none⟩=some (.string tn)∧w'.cell? ⟨bx,2,none⟩=some (.int .i64 (p:Int))) (ds:=[]) #[false,false,false,false,false,false,false,false,false,false,false,false,false,false,false,false,false,false,false,false] dL rfl rfl ⟨(HSK.out _ hb0).1,(HSK.out _ hb0).2.1,(HSK.out _ hb0).2.2.1,(HSK.out _ hb0).2.2.2.1,(HSK.out _ hb0).2.2.2.2⟩ (fun hHeld=>?_);obtain⟨wd9,hwd⟩:∃wd,wd=wr.drew:=⟨_,rfl⟩;rw[←hwd]at hHeld⊢;have B9:=hide (show Below wr.heap.size wr wd9 from gX);clear hwd hb0;refine pv 0 137 ?_;refine pv 2 139 ?_;refine pv 6 143 ?_;refine tv 1 138 hHeld ?_;refine pv 3 140 ?_;refine pv 4 141 ?_;refine tv 5 142 hHeld ?_;refine tv 7 144 hHeld ?_;refine pv 8 145 ?_;refine pv 9 146 ?_;refine pv 10 147 ?_;refine pv 12 149 ?_;refine pv 16 153 ?_;refine tv 11 148 hHeld ?_;refine pv 13 150 ?_;refine pv 14 151 ?_;refine tv 15 152 hHeld ?_;refine tv 17 154 hHeld ?_;refine pv 18 155 ?_;refine pv 19 156 ?_;refine dP dL ?_;have Q2:=hide (JK.out.trans (B9.out.mono JK.out.size));clear HSK hHeld e1 c7 hkn;go_wp2;go_roundg (i-k)
        case measure=>omega
        case rel=>exact⟨k+1,aG,aG,Nb,Q2⟩
       ·obtain rfl:k=i:=aG
        have Q2:=hide (BW.out.trans (JK.out.mono BW.out.size));go_wp2;go_roundg (nt-k)
        case measure=>omega
        case rel=>exact⟨k+1,aG,aG,Nb,Q2⟩
     ·obtain rfl:i=nt:=aG
      have HT:=hide (HX3.out wr tF.out).rd.tab;go_wp2_with (go_at_call 9;refine Aside0.out ?_);refine⟨?_⟩;refine(oG wr HT.out).mono ?_;rintro e w9 ⟨rfl,h9⟩;have HE9:=hide (B4.out.trans ((tF.out.trans (h9.mono tF.out.size)).mono B4.out.size));clear h9;go_wp2;go_ret;exact⟨rfl,HE9.out⟩
 ·have hz:(er != 0)=true:=AV h0
  have HNR:=hide (fun e=>h0 (Jw.out.symm.trans ((Jf x).2 e)));clear h0 Jw lq Pk qm ZO;exact QV
theorem ZP {W:World}(x:Tr)(lx:Low x)(A:Option Addr)(c:Nat)(hr:Rd W x A c)(w:World)(hw:w=W):
  Calls Tryz.prog 4 #[nd x A c] w fun e w'=>e= .returned (.bool true)∧Below w.heap.size w w':=by
 subst hw;exact Tj x lx.fit (by have:=yw lx;omega) A c w hr
end Go.Proofs.YtldgmneijipbjaaGreatDoor.H
