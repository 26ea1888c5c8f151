import Derived.Test.YtldgmneijipbjaaGreatDoorBQ8
import Derived.Test.YtldgmneijipbjaaGreatDoorBF0
import Derived.Test.YtldgmneijipbjaaGreatDoorBR11
import Derived.Test.YtldgmneijipbjaaGreatDoorRows
import Derived.Test.YtldgmneijipbjaaGreatDoorBZ4
import Derived.Deep.Slices
import Derived.Lib.SmallJoins
import Derived.Test.YtldgmneijipbjaaGreatDoorBMac
set_option linter.unusedVariables false
set_option linter.unusedSimpArgs false
set_option maxRecDepth 100000
set_option maxHeartbeats 16000000
section
namespace Go.Proofs.YtldgmneijipbjaaGreatDoor.H
open Go.RowKit Go.Shelf Go.Maps Go.WideMaps Go.Proofs.YtldgmneijipbjaaGreatDoorW.PrintWords Go.Proofs.YtldgmneijipbjaaGreatDoorW.PrintLast Go.Proofs.YtldgmneijipbjaaGreatDoorW.PrintMore
open PScopeOwn
def rz (x:Tr):Int:=if jw x=true then(mK x).err else 50
def vV (x:Tr):Int:=if jw x=true then(if(mK x).err=0 then 0 else(mK x).PV)else 0
def qp (x:Tr):List dA:=if jw x=true∧(mK x).err=0 then(mK x).aN else[]
def qw (x:Tr):List bV:=if jw x=true∧(mK x).err=0 then(mK x).uses else[]
structure RRV (w:World)(x:Tr)(tv uv:Value)(w':World):Prop where
 low:Below w.heap.size w w'
 tv:K5.R 43 w' w.heap.size (fun k=>w.heap.size≤k) tv ((qp x).map dA.cs)
 uv:K5.R 37 w' w.heap.size (fun k=>w.heap.size≤k) uv ((qw x).map bV.cs)
def zT (x:Tr)(w:World)(e:Ending)(w':World):Prop:=∃tv uv,e= .returned (.tuple #[.agg #[tv,uv],.int .i64 (vV x),.int .i64 (rz x)])∧RRV w x tv uv w'
theorem RRV.none {w w':World}{x:Tr}(h:Below w.heap.size w w')(hn:¬(jw x=true∧(mK x).err=0)):RRV w x (.slice none 0 0) (.slice none 0 0) w':=by
 refine⟨h,?_,?_⟩
 ·unfold qp;rw[if_neg hn];exact Kd.jm _ _ _ _ _
 ·unfold qw;rw[if_neg hn];exact Kd.jm _ _ _ _ _
theorem Td {x:Tr}(hf:Fit x)(hn:jw x=false)(A:Option Addr)(c:Nat)(w:World)(hr:Rd w x A c):Calls Tryz.prog 8 #[nd x A c] w (zT x w):=by
 obtain⟨n,hnn⟩:∃n,x.f3.length=n:=⟨_,rfl⟩;obtain⟨fv,Sr⟩:∃v,eT x=v:=⟨_,rfl⟩;have CG:=hide (fun(W:World) (hb:Below w.heap.size w W)=>EL x hf A c W (hr.below hb));have hz:¬(jw x=true∧(mK x).err=0):=by rw[hn];simp
 have HZ:=hide hz;have hpe:vV x=0∧rz x=50:=by unfold vV rz;rw[hn];simp
 unfold zT;refine Wd ?_;clear CG;intro CG h5 h6 h5' h6';unfold nd at CG⊢;rw[hnn]at CG⊢;clear hf hn hr hz hpe Sr hnn;go_enter Tryz.func8,Tryz.ntmps8;go_wp2_with (go_at_call 22;refine Aside0.out ?_);refine⟨?_⟩;refine(CG.out _ (au (au (Below.refl _ _) _) _)).mono ?_;rintro e w2 ⟨rfl,h2⟩
 have hbx:w2.heap[w.heap.size+1]?=some (.cells #[.slice none 0 0,.slice none 0 0] 28 (0,0)):=by
  exact QG
 obtain⟨⟨⟨p0,r0⟩,⟨p1,r1⟩⟩,hB,hF⟩:=vk hbx (.slice none 0 0) (.slice none 0 0);have HB:=hide hB;have hlow:Below w.heap.size w w2:=(au (au (Below.refl _ _) _) _).trans (h2.mono (by simp;omega));have HL:=hide (hlow.trans (hF.below (B:=w.heap.size) hlow.size (by rintro k rfl;omega)));clear h2 hbx hB hF hlow;go_wp2;have e0:=(aj HB.out 0).trans rfl;have e1:=(aj HB.out 1).trans rfl
 try simp only[Exit.inBlock,Exit.then]
 refine bodyPost_ret (v:= .tuple #[.agg #[.slice none 0 0,.slice none 0 0],.int .i64 0,.int .i64 50]) YX rfl ?_;exact⟨_,_,rfl,RRV.none HL.out HZ.out⟩
structure RRI (D:Nat)(m:RM)(x:Tr)(bx bs:Nat)(A:Option Addr)(n c:Nat)(w4:World)(i:Nat)(p:Int)(wr:World):Prop where
 q:Rk D m (mE Me 1 0 (x.f3.take i)) w4 wr
 box:wr.heap[bx]?=some (.cells #[.int .i64 x.f0,.string x.f1,.int .i64 x.f2,.slice A n c] 24 (0,0))
 res:wr.heap[bs]?=some (.cells #[.slice none 0 0,.slice none 0 0] 28 (0,0))
 p:p=1+(aM (x.f3.take i)).length
theorem ZA (x:Tr):mK x=b_ (mE Me 1 0 x.f3) (0+1) x.f3:=rfl
theorem Te {x:Tr}(hf:Fit x)(hn:jw x=true)(hbig:(flat x).length≤1048576)(A:Option Addr)(c:Nat)(w:World)(hr:Rd w x A c):Calls Tryz.prog 8 #[nd x A c] w (zT x w):=by
 refine YL ?_;intro hall hrf n hnn hnb fv Sr;have CG:=hide (fun(W:World) (hb:Below w.heap.size w W)=>EL x hf A c W (hr.below hb));refine Y9 ?_;clear CG;intro CG z5 h5 z6 h6 hz h5' h6' abP HF HR HRF wG Dr HN;unfold nd at CG⊢;rw[hnn]at CG⊢;clear hf hn hbig hr hrf hall Sr hnn h5 h6
 cases z5<;>cases z6<;>first|(cases hz;done)|skip
 all_goals
  go_enter Tryz.func8,Tryz.ntmps8;go_wp2_with (go_at_call 22;refine Aside0.out ?_);refine⟨?_⟩;refine(CG.out _ (au (au (Below.refl _ _) _) _)).mono ?_;rintro e w2 ⟨rfl,h2⟩
  have hbx:w2.heap[w.heap.size+1]?=some (.cells #[.slice none 0 0,.slice none 0 0] 28 (0,0)):=by
   exact QG
  have hbn:w2.heap[w.heap.size]?=some (.cells #[.int .i64 x.f0,.string x.f1,.int .i64 x.f2,.slice A n c] 24 (0,0)):=by
   exact VN
  refine H_ ?_;intro hlow hsz2;obtain⟨W4,KW⟩:∃W4,w2.alloc (.cells #[.slice none 0 0,.slice none 0 0,.slice none 0 0,.bool false,.bool false,.int .i64 0,.int .i64 0,.slice none 0 0] 62)=W4:=⟨_,rfl⟩;have hb4:Below w2.heap.size w2 W4:=KW▸au (Below.refl _ _) _
  have hfin:RF w.heap.size W4 ⟨w2.heap.size,.slice none 0 0,.slice none 0 0,.slice none 0 0,.slice none 0 0⟩ Me:=by
   refine⟨?_,Kd.jm _ _ _ _ _,Kd.jm _ _ _ _ _,Kd.jm _ _ _ _ _,Kd.jm _ _ _ _ _,(Nat.le_trans aG hsz2)⟩;rw[←KW];exact aR w2 _
  obtain⟨g,hg⟩:∃g,w2.heap.size=g:=⟨_,rfl⟩;obtain⟨m,hm⟩:∃m:RM,(⟨w2.heap.size,.slice none 0 0,.slice none 0 0,.slice none 0 0,.slice none 0 0⟩:RM)=m:=⟨_,rfl⟩;have hmg:m.g=g:=by rw[←hm];exact hg
  rw[hm]at hfin;subst hmg
  have hown:∀k,m.own k→w2.heap.size≤k:=fun k hk=>by
   rw[←hm]at hk;rcases hk with hk|hk|hk|hk|hk
   ·have hk:k=w2.heap.size:=hk;omega
   ·exact Wj
   ·exact Wj
   ·exact Wj
   ·exact Wj
  refine GU ?_;intro KX NW c3 H4;refine kJ ?_;intro HOWN HL4 lW;have Q0:=hide (show RRI w.heap.size m x w.heap.size (w.heap.size+1) A n c W4 0 1 W4 from⟨Rk.of_below (by simpa [mE]using hfin) (Below.refl _ _),KX,NW,Oe⟩);clear h2 hbx hbn hlow hb4 hfin hown KX NW hm hsz2;go_wp2;clear KW;clear hg;go_loopg [8,7] (n+1) (fun gk v26 v7 wr=>∃(i:Nat) (p:Int),i≤n∧n-i<gk∧v26= .int .i64 i∧v7= .int .i64 p∧Aside0 (RRI w.heap.size m x w.heap.size (w.heap.size+1) A n c W4 i p wr))
  case atStart=>exact⟨0,1,Nat.zero_le _,aG,rfl,rfl,Q0⟩
  case round=>
   obtain⟨i,p,hi,lS,rfl,rfl,Q⟩:=hrel;clear Q0;refine VT ?_;intro c3;by_cases hlt:i<n
   ·refine WU ?_
    intro eY y hy;obtain⟨ad,A',c',rfl,dR,hcells⟩:=HRF.out.kid hy;have hb0:Below w.heap.size w wr:=Q.out.q.bR H4.out HL4.out;obtain⟨k0,k1,k2,k3⟩:=hcells wr (fun k hk=>hb0.block k hk);have kC:=hide dR;have iH:=hide hy;have sV:=hide hb0;have HCE:=hide hcells;clear hy dR hcells hb0;go_wp2_with (go_at_call 23;refine Aside0.out ?_);refine⟨?_⟩;obtain⟨m1,hf1,hu1⟩:=Q.out.q.fin;have hgr:=CV (x.f3.take i) Me 1 0;have hg1:=hgr.aN;have hg2:=hgr.ex;have htl:=take_len iH.out;have hpp:=Q.out.p;have hbg:=Dr.out;have e1:Me.aN.length=0:=rfl;have e2:Me.ex.length=0:=rfl;have xQ:RB2 (flat y).length (mE Me 1 0 (x.f3.take i)) p:=⟨aG,aG,aG,aG⟩;have hcall:=YT w w.heap.size y (HF.out.kid (bZ iH.out)) (wG.out y (bZ iH.out)).1 A' c' wr m1 _ p i sV.out kC.out hf1 xQ;rw[hu1.g]at hcall;refine hcall.mono ?_;rintro e w3 ⟨rfl,hq⟩;have hb3:=hq.bR hf1 sV.out;have how:∀k,¬m.own k→k<W4.heap.size→¬m1.own k:=fun k h1 h2 h3=>(hu1.own k h3).elim h1 (fun q=>aG);have hsz:=lW.out;have KY:=(hq.fr.block _ (ay Q.out.box) (how _ HOWN.out.1 aG)).trans Q.out.box;have NY:=(hq.fr.block _ (ay Q.out.res) (how _ HOWN.out.2 aG)).trans Q.out.res;refine H9 ?_;intro s hs hs0 hws;have DL:=hide (mY y (HF.out.kid (bZ iH.out)) aG A' c' w3 (kC.out.kids w3 (fun k hk _=>hb3.block k hk)) kC.out.cap);rw[hs]at DL;have htk:(x.f3.take i).length=i:=by rw[List.length_take,HN.out];omega
    have QN:=hide (show∀w5,Below w3.heap.size w3 w5→RRI w.heap.size m x w.heap.size (w.heap.size+1) (some ad) n c W4 (i+1) (p+s) w5 from fun w5 h5=>by
     refine⟨?_,(h5.block _ (ay KY)).trans KY,(h5.block _ (ay NY)).trans NY,?_⟩
     ·rw[bJ iH.out,CW,←hpp,htk,show(0:Int)+(i:Int)=(i:Int)from aG]
      exact(Rk.trans hu1 Q.out.q.fr hq).more h5
     ·rw[bJ iH.out,gU,hs,hpp];omega)
    obtain⟨j0,j1,j2,j3⟩:=HCE.out w3 (fun k hk=>hb3.block k hk);have d3:w3.cell? ⟨w.heap.size,3,none⟩=some (.slice (some ad) n c):=(aj KY 3).trans rfl;clear hcall hq hf1 hu1 hgr hg1 hg2 htl hpp hbg e1 e2 xQ hb3 how hsz KY NY hs hs0 htk k0 k1 k2 k3 c3;unfold nd at DL;go_wp2_with (go_at_call 12;refine DL.out.mono ?_;rintro e w5 ⟨rfl,h5⟩;have Q2:=hide (QN.out w5 h5);clear h5);exact vS
   ·obtain rfl:i=n:=aG
    obtain⟨m1,hf1,hu1⟩:=Q.out.q.fin;have hbw:Below w.heap.size w wr:=Q.out.q.bR H4.out HL4.out;have htk:x.f3.take i=x.f3:=List.take_of_length_le Np;rw[htk]at hf1;have hgr:=CV x.f3 Me 1 0;have hbg:=Dr.out;have hfl:=bC x;have e3:(mE Me 1 0 x.f3).uses.length=0:=by rw[hgr.uses];rfl
    have e4:(mE Me 1 0 x.f3).aT.length=0:=by rw[hgr.aT];rfl
    have e5:=hgr.aN;have e6:Me.aN.length=0:=rfl;have e7:(aM x.f3).length*1048576≤1048576*1048576:=Nat.mul_le_mul_right 1048576 aG;have hcall:=EA HF.out (fun y hy=>SG w w.heap.size _ y (Nat.le_refl _) (HF.out.kid hy) (wG.out y hy).1) A c wr m1 _ 0 hbw HRF.out hf1 wN ⟨wN,aG,by rw[e3];omega,by rw[e4,Nat.zero_add];exact e7,aG,aG⟩;rw[←ZA,hu1.g]at hcall;unfold nd at hcall;rw[HN.out]at hcall;have HC:=hide hcall;have rZ:=hide hu1;have sV:=hide hbw;have n0:wr.cell? ⟨w.heap.size,0,none⟩=some (.int .i64 x.f0):=(aj Q.out.box 0).trans rfl;have n1:wr.cell? ⟨w.heap.size,1,none⟩=some (.string x.f1):=(aj Q.out.box 1).trans rfl;have n2:wr.cell? ⟨w.heap.size,2,none⟩=some (.int .i64 x.f2):=(aj Q.out.box 2).trans rfl;have HOW:=hide (show∀k,¬m.own k→k<W4.heap.size→¬m1.own k from fun k h1 h2 h3=>(hu1.own k h3).elim h1 (fun q=>aG));have gK:=hide hf1;clear hcall hf1 hu1 hbw htk hgr hbg hfl e3 e4 e5 e6 e7;go_wp2_with (go_at_call 24;refine Aside0.out ?_);refine⟨?_⟩;refine HC.out.mono ?_;rintro e W6 ⟨rfl,hq⟩;obtain⟨m6,Ii,Sv⟩:=hq.fin;have qx:W6.heap[m.g]?=some (.cells (m6.cells (mK x)) 62 (0,0)):=by have h6:=Ii.blk;rw[Sv.g,rZ.out.g]at h6;exact h6
    refine Nw ?_;intro oU hsz Ij NZ;obtain⟨err,Sw⟩:∃b,(mK x).err=b:=⟨_,rfl⟩;obtain⟨bad,hbad⟩:∃b,(mK x).PV=b:=⟨_,rfl⟩;obtain⟨At,nt,ct,htv⟩:∃a b c,m6.vt= .slice a b c:=by obtain⟨a,c,e,-⟩:=Kd.bL Ii.vt;exact⟨_,_,_,e⟩
    refine GX ?_;intro Au nu cu huv HF6 KZ HEB HTU;have HHT:=hide (And.intro (htv▸Ii.vt) (huv▸Ii.vu));unfold RM.cells at qx;rw[Sw,hbad,htv,huv]at qx;have K4:=hide qx;have Yb:=hide (And.intro (ay Ij) Ij);have Ik:=hide NZ;have g5:W6.cell? ⟨m.g,6,none⟩=some (.int .i64 err):=(aj qx 6).trans rfl;clear hq Ii Sv qx oU Ij NZ Sw hbad htv huv hsz n0 n1 n2 c3 HC;obtain⟨ze,z8⟩:∃z,(err==0)=z:=⟨_,rfl⟩;have Yc:(err != 0)=!ze:=by simp only[bne,z8]
    have WW:=hide z8;clear z8
    cases ze with
    |false=>
     have uP:err≠0:=by simpa using WW.out
     have HS:=hide (fun(W:World) (hb:Fr (fun k=>k=w.heap.size+1) W6 W)=>show W.cell? ⟨m.g,5,none⟩=some (.int .i64 bad)∧W.cell? ⟨m.g,6,none⟩=some (.int .i64 err)from⟨(aj ((hb.block _ (ay K4.out) Ik.out).trans K4.out) 5).trans rfl,(aj ((hb.block _ (ay K4.out) Ik.out).trans K4.out) 6).trans rfl⟩);have N7:=hide uP;clear uP;go_wp2;clear Yc g5;have hb0:Below W6.heap.size W6 W6.drew:=bq (Below.refl _ _);refine bX (n:=12) (S:=fun w'=>w'.cell? ⟨m.g,5,none⟩=some (.int .i64 bad)∧w'.cell? ⟨m.g,6,none⟩=some (.int .i64 err)) (ds:=[]) #[false,false,false,false,false,false,false,false,false,false,false,false] dL rfl rfl ⟨(HS.out _ (Fr.of_below hb0)).1,(HS.out _ (Fr.of_below hb0)).2⟩ (fun hHeld=>?_);obtain⟨wd,hwd⟩:∃wd,wd=W6.drew:=⟨_,rfl⟩;rw[←hwd]at hHeld⊢;refine Xm ?_;intro B0;clear hwd hb0;refine pv 0 52 ?_;refine pv 1 53 ?_;refine pv 2 54 ?_;refine pv 3 55 ?_;refine pv 5 57 ?_;refine pv 6 58 ?_;refine pv 7 59 ?_;refine tv 4 56 hHeld ?_;refine tv 8 60 hHeld ?_;refine iw (i:=9) (N:=none) #[true,true,true,true,true,true,true,true,true,true,false,false] rfl rfl dL wN (fun K hK=>?_);obtain⟨⟨⟨p0,r0⟩,⟨p1,r1⟩⟩,hB,hF⟩:=vk ((B0.out.block _ Yb.out.1).trans Yb.out.2) (.slice none 0 0) (.slice none 0 0);refine gy (w1:=?_) Nr rfl ?_ ?_;rotate_left
     ·go_simp
      rfl
     clear p0 r0 p1 r1;obtain⟨w9,hw⟩:∃x,((wd.setCell ⟨w.heap.size+1,0,none⟩ (.slice none 0 0)).setCell ⟨w.heap.size+1,1,none⟩ (.slice none 0 0))=x:=⟨_,rfl⟩;refine Xw ?_;clear hB hF;intro HFX dI FX;clear hw;refine hK.out _ _ ⟨(HS.out _ (FX.out)).1,(HS.out _ (FX.out)).2⟩ (fun hHeld=>?_);clear hK K;refine pv 10 3 ?_;refine pv 11 4 ?_;refine dP dL ?_;go_wp2
     try simp only[Exit.inBlock,Exit.then]
     refine yI ?_;intro e0 e1;refine bodyPost_ret (v:= .tuple #[.agg #[.slice none 0 0,.slice none 0 0],.int .i64 bad,.int .i64 err]) YX rfl ?_;have wI:=abP.out;obtain⟨q1,q2⟩:=HEB.out;have xS:Below w.heap.size w w9:=KZ.out.trans (FX.out.below KZ.out.size (by rintro k rfl;omega));have p1:vV x=bad:=by unfold vV;rw[if_pos wI,if_neg (by rw[q1];exact N7.out),q2]
     have p2:rz x=err:=by unfold rz;rw[if_pos wI,q1]
     unfold zT;rw[p1,p2];exact⟨_,_,rfl,RRV.none xS (fun e=>N7.out (by rw[←q1];exact e.2))⟩
    |true=>
     have uP:err=0:=by simpa using WW.out
     have HS:=hide (fun(W:World) (hb:Fr (fun k=>k=w.heap.size+1) W6 W)=>show W.cell? ⟨m.g,0,none⟩=some (.slice At nt ct)∧W.cell? ⟨m.g,1,none⟩=some (.slice Au nu cu)from⟨(aj ((hb.block _ (ay K4.out) Ik.out).trans K4.out) 0).trans rfl,(aj ((hb.block _ (ay K4.out) Ik.out).trans K4.out) 1).trans rfl⟩);have N7:=hide uP;clear uP;go_wp2;clear Yc g5;have hb0:Below W6.heap.size W6 W6.drew:=bq (Below.refl _ _);refine bX (n:=12) (S:=fun w'=>w'.cell? ⟨m.g,0,none⟩=some (.slice At nt ct)∧w'.cell? ⟨m.g,1,none⟩=some (.slice Au nu cu)) (ds:=[9]) #[false,false,false,false,false,false,false,false,false,false,false,false] dL rfl rfl ⟨(HS.out _ (Fr.of_below hb0)).1,(HS.out _ (Fr.of_below hb0)).2⟩ (fun hHeld=>?_);obtain⟨wd,hwd⟩:∃wd,wd=W6.drew:=⟨_,rfl⟩;rw[←hwd]at hHeld⊢;refine Xm ?_;intro B0;clear hwd hb0;refine pv 0 61 ?_;refine pv 1 62 ?_;refine pv 2 63 ?_;refine pv 4 65 ?_;refine pv 5 66 ?_;refine pv 6 67 ?_;refine tv 3 64 hHeld ?_;refine tv 7 68 hHeld ?_;refine pv 8 69 ?_;refine eF (i:=9) (N:=none) #[true,true,true,true,true,true,true,true,true,true,false,false] rfl rfl dL wN (fun K hK=>?_);obtain⟨⟨⟨p0,r0⟩,⟨p1,r1⟩⟩,hB,hF⟩:=vk ((B0.out.block _ Yb.out.1).trans Yb.out.2) (.slice At nt ct) (.slice Au nu cu);refine gy (w1:=?_) Nr rfl ?_ ?_;rotate_left
     ·go_simp
      rfl
     clear p0 r0 p1 r1;obtain⟨w9,hw⟩:∃x,((wd.setCell ⟨w.heap.size+1,0,none⟩ (.slice At nt ct)).setCell ⟨w.heap.size+1,1,none⟩ (.slice Au nu cu))=x:=⟨_,rfl⟩;refine Xw ?_;clear hB hF;intro HFX dI FX;clear hw;refine hK.out _ _ ?_;clear hK K;refine pv 10 3 ?_;refine pv 11 4 ?_;refine dP dL ?_;go_wp2
     try simp only[Exit.inBlock,Exit.then]
     refine yI ?_;intro e0 e1;refine bodyPost_ret (v:= .tuple #[.agg #[.slice At nt ct,.slice Au nu cu],.int .i64 0,.int .i64 0]) YX rfl ?_;have wI:=abP.out;obtain⟨q1,q2⟩:=HEB.out;have xS:Below w.heap.size w w9:=KZ.out.trans (FX.out.below KZ.out.size (by rintro k rfl;omega));have hok:jw x=true∧(mK x).err=0:=⟨wI,q1.trans N7.out⟩;have p1:vV x=0:=by unfold vV;rw[if_pos wI,if_pos hok.2]
     have p2:rz x=0:=by unfold rz;rw[if_pos wI,hok.2]
     unfold zT;refine OD ?_;intro K9
     have hty:∀k,(bQ (.slice At nt ct) k∨bQ (.slice Au nu cu) k)→k≠w.heap.size+1:=fun k hk e=>by
      exact yF
     refine⟨.slice At nt ct,.slice Au nu cu,rfl,xS,?_,?_⟩
     ·unfold qp
      exact ZT
     ·unfold qw
      exact Fe
theorem LQ {x:Tr}(hf:Fit x)(hbig:(flat x).length≤1048576)(A:Option Addr)(c:Nat)(w:World)(hr:Rd w x A c):Calls Tryz.prog 8 #[nd x A c] w (zT x w):=by
 cases h:jw x with
 |false=>exact Td hf h A c w hr
 |true=>exact Te hf h hbig A c w hr
end Go.Proofs.YtldgmneijipbjaaGreatDoor.H
end
section
namespace Go.Proofs.YtldgmneijipbjaaGreatDoor.H
open Go.RowKit Go.Proofs.YtldgmneijipbjaaGreatDoorW.PrintWords Go.Proofs.YtldgmneijipbjaaGreatDoorW.PrintLast Go.Proofs.YtldgmneijipbjaaGreatDoorW.PrintMore
open Go.ChangeShapes Go.WideShapes
open PScopeOwn
mutual
def bk:Tr→Nat
 |⟨_,s,_,l⟩=>Tf l+s.size+4
def Tf:List Tr→Nat
 |[]=>0
 |x::l=>bk x+Tf l
end
theorem EM (x:Tr):bk x=Tf x.f3+x.f1.size+4:=by obtain⟨a,b,c,l⟩:=x;rw[bk]
theorem ag7 {l:List Tr}{y:Tr}(h:y∈l):bk y≤Tf l:=by
 induction l with
 |nil=>cases h
 |cons x l ih=>
  rw[Tf];rcases List.mem_cons.1 h with rfl|h
  ·omega
  ·have:=ih h;omega
theorem Tg (l:List Tr):l.length≤Tf l:=by
 induction l with
 |nil=>simp
 |cons x l ih=>rw[Tf,List.length_cons,EM];omega
theorem ag8 {x y:Tr}(h:y∈x.f3):bk y<bk x:=by rw[EM x];have:=ag7 h;omega
theorem ag9 (m:Nat):∀x:Tr,bk x≤m→m≤1099511627776→Fit x:=by
 induction m with
 |zero=>intro x h;rw[EM]at h;omega
 |succ m ih=>
  intro x h hm;have h1:=EM x;have h2:=Tg x.f3;exact .mk x aG aG (fun y hy=>ih y (by have:=ag8 hy;omega) aG)
def Low (x:Tr):Prop:=bk x≤1048576
theorem Low.fit {x:Tr}(h:Low x):Fit x:=ag9 _ x h aG
theorem Je {H:Type}(n:Nat):∀(f:Nat→Tr) (D:Nat→DataW H),(∀i,i<n→bk (f i)≤Rows.uptoBulk (D i))→Tf ((List.range n).map f)≤Rows.uptoBulkAll ((List.range n).map D):=by
 induction n with
 |zero=>intro f D h;simp[Tf]
 |succ n ih=>
  intro f D h;rw[List.range_succ_eq_map,List.map_cons,List.map_cons,List.map_map,List.map_map,Tf,Rows.uptoBulkAll];have h0:=h 0 aG;have h1:=ih (f∘Nat.succ) (D∘Nat.succ) (fun i hi=>h (i+1) aG);omega
theorem LV {H:Type}(d:DataW H):1≤Rows.uptoBulk d:=by
 unfold Rows.uptoBulk
 split<;>omega
theorem open_tree {H:Type}{enc:TypeId×Value→H}{W:World}(htab:jU W)(fuel:Nat):∀(cs:List Value) (d:DataW H) (p:List MemPlace),DataW.trod enc Tryz.prog W 0 (fun _=>true) true fuel 24 cs=some (d,p)→
  ∃x A c,cs=Ao x A c∧Rd W x A c∧bk x≤Rows.uptoBulk d:=by
 induction fuel using Nat.strongRecOn with
 |_ fuel ih=>
 intro cs d p h
 cases fuel with
 |zero=>simp[DataW.trod]at h
 |succ fuel=>
  obtain⟨y0,y1,y2,y3,hx,hl,h0,h1,h2,h3⟩:∃y0 y1 y2 y3:DataW H×List MemPlace,d= .agg [y0.1,y1.1,y2.1,y3.1]∧cs.length=4∧DataW.trod enc Tryz.prog W 0 (fun _=>true) true fuel 3 ((cs.drop 0).take 1)=some y0∧DataW.trod enc Tryz.prog W 0 (fun _=>true) true fuel 9 ((cs.drop 1).take 1)=some y1∧DataW.trod enc Tryz.prog W 0 (fun _=>true) true fuel 3 ((cs.drop 2).take 1)=some y2∧DataW.trod enc Tryz.prog W 0 (fun _=>true) true fuel 22 ((cs.drop 3).take 1)=some y3:=by
   obtain⟨xs,n,hn,hx,hl,hlen,hf⟩:=DataW.trod_struct Tryz.underlying24 h;obtain rfl:n=fuel:=aG;have c4:Program.cellsOf Tryz.prog 24=4:=dL;have c1:Program.cellsOf Tryz.prog 3=1:=dL;have c9:Program.cellsOf Tryz.prog 9=1:=dL;have tH:Program.cellsOf Tryz.prog 22=1:=dL
   match xs,hlen with
   |[y0,y1,y2,y3],_=>
    have a0:DataW.trod enc Tryz.prog W 0 (fun _=>true) true n 3 ((cs.drop 0).take (Program.cellsOf Tryz.prog 3))=some y0:=hf 0 _ rfl;have a1:DataW.trod enc Tryz.prog W 0 (fun _=>true) true n 9 ((cs.drop 1).take (Program.cellsOf Tryz.prog 9))=some y1:=hf 1 _ rfl;have a2:DataW.trod enc Tryz.prog W 0 (fun _=>true) true n 3 ((cs.drop 2).take (Program.cellsOf Tryz.prog 3))=some y2:=hf 2 _ rfl;have a3:DataW.trod enc Tryz.prog W 0 (fun _=>true) true n 22 ((cs.drop 3).take (Program.cellsOf Tryz.prog 22))=some y3:=hf 3 _ rfl;rw[c1]at a0 a2;rw[c9]at a1;rw[tH]at a3;exact⟨y0,y1,y2,y3,by have:=congrArg Prod.fst hx;simpa using this,hl.trans c4,a0,a1,a2,a3⟩
  obtain⟨u0,u1,u2,u3,rfl⟩:∃u0 u1 u2 u3,cs=[u0,u1,u2,u3]:=by
   match cs,hl with
   |[u0,u1,u2,u3],_=>exact⟨u0,u1,u2,u3,rfl⟩
  obtain⟨k,e0,-,-⟩:=DataW.trod_int Tryz.underlying3 h0;obtain⟨s,e1,x1,-⟩:=DataW.trod_string Tryz.underlying9 h1;obtain⟨nn,e2,-,-⟩:=DataW.trod_int Tryz.underlying3 h2;simp only[List.drop_zero,List.take_succ_cons,List.take_zero,List.drop_succ_cons,List.cons.injEq,and_true]at e0 e1 e2;subst e0 e1 e2 hx;simp only[List.drop_succ_cons,List.drop_zero,List.take_succ_cons,List.take_zero]at h3;have hb1:Rows.uptoBulk y1.1=s.size+1:=by rw[x1];simp[Rows.uptoBulk]
  simp only[Rows.uptoBulk,Rows.uptoBulkAll,hb1];have p0:=LV y0.1;have p2:=LV y2.1;rcases DataW.trod_slice Tryz.underlying22 h3 with⟨e,ex⟩|⟨a,len,cap,elems,rest,n,hn,e,ex,hb,hlc,hm,hel,hcells,-,-⟩
  ·cases e
   refine⟨⟨k,s,nn,[]⟩,none,0,rfl,Rd.nil htab rfl,?_⟩;rw[EM];simp only[Tf];omega
  ·cases e
   have c4:Program.cellsOf Tryz.prog 24=4:=dL;rw[c4]at hcells
   have hk:∀i,∃x,i<len→∃A c,(∀j u,(Ao x A c)[j]?=some u→W.cell? (a.add (i*4+j))=some u)∧Rd W x A c∧bk x≤Rows.uptoBulk (elems.getD i (.nil,[])).1:=by
    intro i;by_cases hi:i<len
    ·have hc:=hcells i hi
     rw[List.getElem?_eq_getElem aG]at hc;obtain⟨cs',k1,k2⟩:=Option.bind_eq_some_iff.1 hc;obtain⟨-,l1,g1⟩:=World.cells?_some k1;obtain⟨x,A,c,rfl,hr,hbk⟩:=ih n aG cs' _ _ k2;refine⟨x,fun _=>⟨A,c,fun j u hu=>?_,hr,?_⟩⟩
     ·have hj:j<4:=by have:=(List.getElem?_eq_some_iff.1 hu).1;simpa using this
      have:=g1 j hj;rw[hu]at this;rw[←this];rw[add_add]
     ·rw[List.getD_eq_getElem?_getD,List.getElem?_eq_getElem aG]
      exact hbk
    ·exact⟨z24,fun h=>absurd h hi⟩
   obtain⟨f,hf⟩:=Classical.axiomOfChoice hk;refine⟨⟨k,s,nn,(List.range len).map f⟩,some a,cap,by simp[Ao],⟨⟨rfl,by simp;unfold maxLen at hm;omega,fun hp=>⟨a,rfl,fun j y hy=>?_⟩⟩,by simpa using hlc,htab⟩,?_⟩
   ·have hj:j<len:=by have:=(List.getElem?_eq_some_iff.1 hy).1;simpa using this
    have hy2:f j=y:=by simpa [hj]using hy
    obtain⟨A,c,g1,hr,-⟩:=hf j hj;rw[hy2]at g1 hr;exact⟨Ao y A c,rfl,EZ W y hr.cap hr.kids,g1⟩
   ·rw[EM]
    have h5:=Je (H:=H) len f (fun i=>(elems.getD i (.nil,[])).1) (fun i hi=>by obtain⟨A,c,-,-,h⟩:=hf i hi;exact h)
    have h6:elems.map (·.1)=(List.range len).map (fun i=>(elems.getD i (.nil,[])).1):=by
     apply List.ext_getElem
     ·simp[hel]
     ·intro i h1 h2
      have:i<elems.length:=Zu;simp[List.getD_eq_getElem?_getD,List.getElem?_eq_getElem this]
    have h7:=congrArg Prod.fst ex;simp only at h7;rw[h7];simp only[Rows.uptoBulk];rw[h6];omega
theorem yu {H:Type}{enc:TypeId×Value→H}{W:World}(htab:jU W){r:Reach}{b0:Nat}{v:Value}{d:DataW H}{p:List MemPlace}(hv:Value.okWide Tryz.prog W r b0 24 v)(h:DataW.Trod enc Tryz.prog W 0 (fun _=>true) true 24 v d p):
  ∃x A c,v=nd x A c∧Rd W x A c∧bk x≤Rows.uptoBulk d:=by
 obtain⟨v0,v1,v2,v3,y0,y1,y2,y3,n,rfl,-,-,t0,t1,t2,t3⟩:=Joins.open_agg4 Tryz.underlying24 dL dL hv h;obtain⟨k,e0,-,-⟩:=DataW.trod_int Tryz.underlying3 t0;obtain⟨s,e1,-,-⟩:=DataW.trod_string Tryz.underlying9 t1;obtain⟨m,e2,-,-⟩:=DataW.trod_int Tryz.underlying3 t2
 cases e0
 cases e1
 cases e2
 have e3:∃A l c,v3= .slice A l c:=by
  rcases DataW.trod_slice Tryz.underlying22 t3 with⟨e,-⟩|⟨a,len,cap,elems,rest,n,-,e,-⟩
  ·cases e;exact⟨none,0,0,rfl⟩
  ·cases e;exact⟨some a,len,cap,rfl⟩
 obtain⟨A,l,c,rfl⟩:=e3;obtain⟨fuel,hf⟩:=h;obtain⟨x,A',c',e,hr,hb⟩:=open_tree htab fuel _ _ _ hf;have e4:(Value.agg #[.int .i64 k,.string s,.int .i64 m,.slice A l c]).cells.toList=[.int .i64 k,.string s,.int .i64 m,.slice A l c]:=rfl;rw[e4]at e;simp only[Ao,List.cons.injEq,and_true]at e;obtain⟨e5,e6,e7,e8⟩:=e;refine⟨x,A',c',?_,hr,hb⟩;unfold nd;rw[e5,e6,e7,e8]
theorem Jf (x:Tr):oV x=0↔rz x=0:=by
 unfold oV rz;by_cases h:jw x=true
 ·rw[if_pos h,if_pos h]
  exact(P7 (by unfold jw at h;simpa using h)).1
 ·rw[if_neg h,if_neg h]
mutual
theorem QU:∀x:Tr,4*(flat x).length≤bk x
 |⟨k,s,n,l⟩=>by
  rw[flat,bk,List.length_cons];have:=LW l;omega
theorem LW:∀l:List Tr,4*(aM l).length≤Tf l
 |[]=>Oe
 |x::l=>by
  rw[aM,Tf,List.length_append];have:=QU x;have:=LW l;omega
end
theorem yw {x:Tr}(h:Low x):(flat x).length≤524288:=by
 have h1:=QU x;unfold Low at h;omega
end Go.Proofs.YtldgmneijipbjaaGreatDoor.H
end
