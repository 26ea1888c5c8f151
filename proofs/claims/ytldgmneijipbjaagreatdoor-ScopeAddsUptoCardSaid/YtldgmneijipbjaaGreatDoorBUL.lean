import Derived.Test.YtldgmneijipbjaaGreatDoorBUK
import Derived.Test.YtldgmneijipbjaaGreatDoorBF0
import Derived.Test.YtldgmneijipbjaaGreatDoorBMac
set_option linter.unusedVariables false
set_option linter.unusedSimpArgs false
set_option maxRecDepth 100000
set_option maxHeartbeats 16000000
namespace Go.Proofs.YtldgmneijipbjaaGreatDoor.H
open Go.RowKit Go.Shelf Go.Maps Go.WideMaps Go.Proofs.YtldgmneijipbjaaGreatDoorW.PrintWords Go.Proofs.YtldgmneijipbjaaGreatDoorW.PrintLast Go.Proofs.YtldgmneijipbjaaGreatDoorW.PrintMore
open PScopeOwn
def jw (x:Tr):Bool:=eT x==5||eT x==6
def oV (x:Tr):Int:=if jw x=true then(fC x).err else 50
def posR (x:Tr):Int:=if jw x=true then(if(fC x).err=0 then 0 else(fC x).bad)else 0
def ig (x:Tr):List dA:=if jw x=true∧(fC x).err=0 then(fC x).aN else[]
def fZ (x:Tr):List bV:=if jw x=true∧(fC x).err=0 then(fC x).uses else[]
theorem vk {w:World}{b:Nat}{t:TypeId}{u0 u1:Value}(h:w.heap[b]?=some (.cells #[u0,u1] t (0,0)))(v0 v1:Value):
  ((w.cell? ⟨b,0,none⟩=some u0∧w.frozen? ⟨b,0,none⟩=false)∧((w.setCell ⟨b,0,none⟩ v0).cell? ⟨b,1,none⟩=some u1∧(w.setCell ⟨b,0,none⟩ v0).frozen? ⟨b,1,none⟩=false))∧
  ((w.setCell ⟨b,0,none⟩ v0).setCell ⟨b,1,none⟩ v1).heap[b]?=some (.cells #[v0,v1] t (0,0))∧Fr (fun k=>k=b) w ((w.setCell ⟨b,0,none⟩ v0).setCell ⟨b,1,none⟩ v1):=by
 have h1:=bT (cs':=#[v0,u1]) h 0 v0 rfl;have h2:=bT (cs':=#[v0,v1]) h1 1 v1 rfl;exact⟨⟨⟨(aj h 0).trans rfl,aQ h 0⟩,⟨(aj h1 1).trans rfl,aQ h1 1⟩⟩,h2,Fr.setCell (p:=⟨b,1,none⟩) (Fr.setCell (p:=⟨b,0,none⟩) (Fr.refl (fun k=>k=b) w) (.inl rfl) _) (.inl rfl) _⟩
structure RV (w:World)(x:Tr)(tv uv:Value)(w':World):Prop where
 low:Below w.heap.size w w'
 tv:K5.R 43 w' w.heap.size (fun k=>w.heap.size≤k) tv ((ig x).map dA.cs)
 uv:K5.R 37 w' w.heap.size (fun k=>w.heap.size≤k) uv ((fZ x).map bV.cs)
def DR (x:Tr)(w:World)(e:Ending)(w':World):Prop:=∃tv uv,e= .returned (.tuple #[.agg #[tv,uv],.int .i64 (posR x),.int .i64 (oV x)])∧RV w x tv uv w'
theorem RV.none {w w':World}{x:Tr}(h:Below w.heap.size w w')(hn:¬(jw x=true∧(fC x).err=0)):RV w x (.slice none 0 0) (.slice none 0 0) w':=by
 refine⟨h,?_,?_⟩
 ·unfold ig;rw[if_neg hn];exact Kd.jm _ _ _ _ _
 ·unfold fZ;rw[if_neg hn];exact Kd.jm _ _ _ _ _
theorem XV {x:Tr}(hf:Fit x)(hn:jw x=false)(A:Option Addr)(c:Nat)(w:World)(hr:Rd w x A c):Calls Tryz.prog 7 #[nd x A c] w (DR x w):=by
 obtain⟨n,hnn⟩:∃n,x.f3.length=n:=⟨_,rfl⟩;obtain⟨fv,Sr⟩:∃v,eT x=v:=⟨_,rfl⟩;have CG:=hide (fun(W:World) (hb:Below w.heap.size w W)=>Ed x hf A c W (hr.below hb));have hz:¬(jw x=true∧(fC x).err=0):=by rw[hn];simp
 have HZ:=hide hz;have hpe:posR x=0∧oV x=50:=by unfold posR oV;rw[hn];simp
 unfold DR;refine Wd ?_;clear CG;intro CG h5 h6 h5' h6';unfold nd at CG⊢;rw[hnn]at CG⊢;clear hf hn hr hz hpe Sr hnn;go_enter Tryz.func7,Tryz.ntmps7;go_wp2_with (go_at_call 18;refine Aside0.out ?_);refine⟨?_⟩;refine(CG.out _ (au (au (Below.refl _ _) _) _)).mono ?_;rintro e w2 ⟨rfl,h2⟩
 have hbx:w2.heap[w.heap.size+1]?=some (.cells #[.slice none 0 0,.slice none 0 0] 28 (0,0)):=by
  exact QG
 obtain⟨⟨⟨p0,r0⟩,⟨p1,r1⟩⟩,hB,hF⟩:=vk hbx (.slice none 0 0) (.slice none 0 0);have HB:=hide hB;have hlow:Below w.heap.size w w2:=(au (au (Below.refl _ _) _) _).trans (h2.mono (by simp;omega));have HL:=hide (hlow.trans (hF.below (B:=w.heap.size) hlow.size (by rintro k rfl;omega)));clear h2 hbx hB hF hlow;go_wp2;have e0:=(aj HB.out 0).trans rfl;have e1:=(aj HB.out 1).trans rfl
 try simp only[Exit.inBlock,Exit.then]
 refine bodyPost_ret (v:= .tuple #[.agg #[.slice none 0 0,.slice none 0 0],.int .i64 0,.int .i64 50]) Pf rfl ?_;exact⟨_,_,rfl,RV.none HL.out HZ.out⟩
structure RI (D:Nat)(m:FM)(x:Tr)(bx bs:Nat)(A:Option Addr)(n c:Nat)(w4:World)(i:Nat)(p:Int)(wr:World):Prop where
 q:Dc D m (iE st0 1 0 (x.f3.take i)) en0 w4 wr
 box:wr.heap[bx]?=some (.cells #[.int .i64 x.f0,.string x.f1,.int .i64 x.f2,.slice A n c] 24 (0,0))
 res:wr.heap[bs]?=some (.cells #[.slice none 0 0,.slice none 0 0] 28 (0,0))
 p:p=1+(aM (x.f3.take i)).length
theorem XZ:cntF []=fun _=>none:=by funext s;rfl
theorem abO (x:Tr):fC x=bK en0 (iE st0 1 0 x.f3) (0+1) x.f3:=rfl
theorem X0 {x:Tr}(hf:Fit x)(hn:jw x=true)(hbig:(flat x).length≤1048576)(A:Option Addr)(c:Nat)(w:World)(hr:Rd w x A c):Calls Tryz.prog 7 #[nd x A c] w (DR x w):=by
 refine YL ?_;intro hall hrf n hnn hnb fv Sr;have CG:=hide (fun(W:World) (hb:Below w.heap.size w W)=>Ed x hf A c W (hr.below hb));refine Y9 ?_;clear CG;intro CG z5 h5 z6 h6 hz h5' h6' abP HF HR HRF wG Dr HN;have hmm:=@run_makeMap Tryz.prog;unfold nd at CG⊢;rw[hnn]at CG⊢;clear hf hn hbig hr hrf hall Sr hnn h5 h6
 cases z5<;>cases z6<;>first|(cases hz;done)|skip
 all_goals
  go_enter Tryz.func7,Tryz.ntmps7;go_wp2_with (go_at_call 18;refine Aside0.out ?_);refine⟨?_⟩;refine(CG.out _ (au (au (Below.refl _ _) _) _)).mono ?_;rintro e w2 ⟨rfl,h2⟩
  have hbx:w2.heap[w.heap.size+1]?=some (.cells #[.slice none 0 0,.slice none 0 0] 28 (0,0)):=by
   exact QG
  have hbn:w2.heap[w.heap.size]?=some (.cells #[.int .i64 x.f0,.string x.f1,.int .i64 x.f2,.slice A n c] 24 (0,0)):=by
   exact VN
  refine H_ ?_;intro hlow hsz2;obtain⟨W4,KW⟩:∃W4,((w2.alloc (.map #[] 0)).alloc (.map #[] 0)).alloc (.cells #[.map (some w2.heap.size),.slice none 0 0,.slice none 0 0,.map (some (w2.heap.size+1)),.slice none 0 0,.int .i64 0,.int .i64 0,.bool false,.bool false] 56)=W4:=⟨_,rfl⟩;have hb4:Below w2.heap.size w2 W4:=KW▸au (au (au (Below.refl _ _) _) _) _
  have hfin:Fin w.heap.size W4 ⟨w2.heap.size+2,w2.heap.size,w2.heap.size+1,.slice none 0 0,.slice none 0 0,.slice none 0 0,[]⟩ st0 en0:=by
   have n0:=dY.made w2;have n1:=dY.made (w2.alloc (.map #[] 0));have n2:=aR ((w2.alloc (.map #[] 0)).alloc (.map #[] 0)) (.cells #[.map (some w2.heap.size),.slice none 0 0,.slice none 0 0,.map (some (w2.heap.size+1)),.slice none 0 0,.int .i64 0,.int .i64 0,.bool false,.bool false] 56);simp only[World.size_alloc]at n1 n2;rw[←KW];refine⟨n2,?_,⟨0,?_⟩,Kd.jm _ _ _ _ _,Kd.jm _ _ _ _ _,Kd.jm _ _ _ _ _,rfl,(fun i b l h _=>(by simp at h)),(Nat.le_trans (Nat.le_trans aG hsz2) (Nat.le_add_right _ 2)),(Nat.le_trans aG hsz2),(Nat.le_trans (Nat.le_trans aG hsz2) (Nat.le_add_right _ 1)),(fun b h=>nomatch h),qo⟩
   ·exact n0.same ((Below.heap_alloc _ _ _ Oi).trans (Below.heap_alloc _ _ _ qo))
   ·rw[show cntF st0.given=fun _=>none from XZ]
    exact n1.same (Below.heap_alloc _ _ _ qo)
  obtain⟨g,hg⟩:∃g,w2.heap.size+1+1=g:=⟨_,rfl⟩;rw[show w2.heap.size+2=g from hg]at hfin;obtain⟨m,hm⟩:∃m:FM,(⟨g,w2.heap.size,w2.heap.size+1,.slice none 0 0,.slice none 0 0,.slice none 0 0,[]⟩:FM)=m:=⟨_,rfl⟩;have hmg:m.g=g:=by rw[←hm]
  subst hmg;have hmv:m.vl= .slice none 0 0∧m.ms=[]∧m.vu= .slice none 0 0:=by rw[←hm];exact⟨rfl,rfl,rfl⟩
  rw[hm]at hfin
  have hown:∀k,m.own k→w2.heap.size≤k:=fun k hk=>by
   rw[←hm]at hk;rcases hk with hk|hk|hk|hk|hk|hk|hk
   ·have hk:k=m.g:=by rw[←hm];exact hk
    omega
   ·have hk:k=w2.heap.size:=hk;omega
   ·have hk:k=w2.heap.size+1:=hk;omega
   ·exact Wj
   ·exact Wj
   ·exact Wj
   ·cases hk
  refine GU ?_;intro KX NW c3 H4;have HMV:=hide hmv;refine kJ ?_;intro HOWN HL4 lW;have Q0:=hide (show RI w.heap.size m x w.heap.size (w.heap.size+1) A n c W4 0 1 W4 from⟨Dc.of_below (by simpa [iE]using hfin) (Below.refl _ _),KX,NW,Oe⟩);clear h2 hbx hbn hlow hb4 hfin hmv hown KX NW hm hsz2;go_wp2;clear c3 KW hmm;clear hg;go_loopg [26,7] (n+1) (fun gk v26 v7 wr=>∃(i:Nat) (p:Int),i≤n∧n-i<gk∧v26= .int .i64 i∧v7= .int .i64 p∧Aside0 (RI w.heap.size m x w.heap.size (w.heap.size+1) A n c W4 i p wr))
  case atStart=>exact⟨0,1,Nat.zero_le _,aG,rfl,rfl,Q0⟩
  case round=>
   obtain⟨i,p,hi,lS,rfl,rfl,Q⟩:=hrel;clear Q0;refine VT ?_;intro c3;by_cases hlt:i<n
   ·refine WU ?_
    intro eY y hy;obtain⟨ad,A',c',rfl,dR,hcells⟩:=HRF.out.kid hy;have hb0:Below w.heap.size w wr:=Q.out.q.bR H4.out HL4.out;obtain⟨k0,k1,k2,k3⟩:=hcells wr (fun k hk=>hb0.block k hk);have kC:=hide dR;have iH:=hide hy;have sV:=hide hb0;clear hy dR hcells hb0;go_wp2_with (go_at_call 19;refine Aside0.out ?_);refine⟨?_⟩;obtain⟨v1,hf1,hu1⟩:=Q.out.q.fin;refine OA ?_;intro wb hwb hbb hxb;have hgr:=u7 (x.f3.take i) st0 1 0;have hg1:=hgr.aN;have hg2:=hgr.given;have htl:=take_len iH.out;have hpp:=Q.out.p;have hbg:=Dr.out;have e1:st0.aN.length=0:=rfl;have e2:st0.given.length=0:=rfl;have xQ:B2 (flat y).length (iE st0 1 0 (x.f3.take i)) p:=⟨aG,aG,aG,aG⟩;have hb2:=hf1.bR sV.out (Fr.of_below hbb);have hcall:=abF w w.heap.size y (HF.out.kid (bZ iH.out)) (wG.out y (bZ iH.out)).1 A' c' wb _ _ en0 p i hb2 kC.out (hf1.below hbb) xQ;refine hcall.mono ?_;rintro e w3 ⟨rfl,hq⟩;have hb3:=hq.bR (hf1.below hbb) hb2;have hnx:¬({m with vl:=v1}:FM).own wr.heap.size:=fun k=>by have:=hf1.hi _ k;omega
    have how:∀k,¬m.own k→k<W4.heap.size→¬({m with vl:=v1}:FM).own k:=fun k h1 h2 h3=>(G_ hu1 k h3).elim h1 (fun q=>aG);have hsz:=lW.out;have hwl:=ay Q.out.box;have agp:=ay Q.out.res;have hx3:=(hq.fr.block _ (ay hxb) hnx).trans hxb;have KY:=(hq.fr.block _ (Nat.lt_of_lt_of_le hwl hbb.size) (how _ HOWN.out.1 aG)).trans ((hbb.block _ hwl).trans Q.out.box);have NY:=(hq.fr.block _ (Nat.lt_of_lt_of_le agp hbb.size) (how _ HOWN.out.2 aG)).trans ((hbb.block _ agp).trans Q.out.res);refine H9 ?_;intro s hs hs0 hws;have DL:=hide (qQ y (HF.out.kid (bZ iH.out)) aG A' c' w3 (kC.out.kids w3 (fun k hk _=>hb3.block k hk)) kC.out.cap);rw[hs]at DL;have htk:(x.f3.take i).length=i:=by rw[List.length_take,HN.out];omega
    have QN:=hide (show∀w5,Below w3.heap.size w3 w5→RI w.heap.size m x w.heap.size (w.heap.size+1) (some ad) n c W4 (i+1) (p+s) w5 from fun w5 h5=>by
     refine⟨?_,(h5.block _ (ay KY)).trans KY,(h5.block _ (ay NY)).trans NY,?_⟩
     ·rw[bJ iH.out,lM,←hpp,htk,show(0:Int)+(i:Int)=(i:Int)from aG]
      exact(Dc.trans hu1 (Q.out.q.fr.more hbb) hq).more h5
     ·rw[bJ iH.out,gU,hs,hpp];omega)
    have d0:w3.cell? ⟨wr.heap.size,0,none⟩=some (.int .i64 y.f0):=(aj hx3 0).trans rfl;have d1:w3.cell? ⟨wr.heap.size,1,none⟩=some (.string y.f1):=(aj hx3 1).trans rfl;have d2:w3.cell? ⟨wr.heap.size,2,none⟩=some (.int .i64 y.f2):=(aj hx3 2).trans rfl;have d3:w3.cell? ⟨wr.heap.size,3,none⟩=some (.slice A' y.f3.length c'):=(aj hx3 3).trans rfl;clear hcall hq hf1 hu1 hbb hxb hgr hg1 hg2 htl hpp hbg e1 e2 xQ hb2 hb3 hnx how hsz hwl agp hx3 KY NY hs hs0 htk hwb k0 k1 k2 k3 c3;unfold nd at DL;go_wp2_with (go_at_call 20;refine DL.out.mono ?_;rintro e w5 ⟨rfl,h5⟩;have Q2:=hide (QN.out w5 h5);clear h5);exact vS
   ·obtain rfl:i=n:=aG
    obtain⟨v1,hf1,hu1⟩:=Q.out.q.fin;have hbw:Below w.heap.size w wr:=Q.out.q.bR H4.out HL4.out;have htk:x.f3.take i=x.f3:=List.take_of_length_le Np;rw[htk]at hf1;have hgr:=u7 x.f3 st0 1 0;have hbg:=Dr.out;have hfl:=bC x;have e3:(iE st0 1 0 x.f3).uses.length=0:=by rw[hgr.uses];rfl
    have qV:m.ms.length=0:=by rw[HMV.out.2.1];rfl
    have hcall:=KH HF.out (fun y hy=>(WY w w.heap.size _ y (Nat.le_refl _) (HF.out.kid hy) (wG.out y hy).1).1) A c wr _ _ en0 0 hbw HRF.out hf1 wN ⟨wN,aG,by rw[e3];omega,by simp only;rw[qV];omega⟩;rw[←abO]at hcall;unfold nd at hcall;rw[HN.out]at hcall;have HC:=hide hcall;have rZ:=hide hu1;have sV:=hide hbw;have n0:wr.cell? ⟨w.heap.size,0,none⟩=some (.int .i64 x.f0):=(aj Q.out.box 0).trans rfl;have n1:wr.cell? ⟨w.heap.size,1,none⟩=some (.string x.f1):=(aj Q.out.box 1).trans rfl;have n2:wr.cell? ⟨w.heap.size,2,none⟩=some (.int .i64 x.f2):=(aj Q.out.box 2).trans rfl;have HOW:=hide (show∀k,¬m.own k→k<W4.heap.size→¬({m with vl:=v1}:FM).own k from fun k h1 h2 h3=>(G_ hu1 k h3).elim h1 (fun q=>aG));have gK:=hide hf1;clear hcall hf1 hu1 hbw htk hgr hbg hfl e3 qV;go_wp2_with (go_at_call 21;refine Aside0.out ?_);refine⟨?_⟩;refine HC.out.mono ?_;rintro e W6 ⟨rfl,hq⟩;obtain⟨m6,Ii,Sv⟩:=hq.fin;have qx:W6.heap[m.g]?=some (.cells (m6.cells (fC x) en0) 56 (0,0)):=by have h6:=Ii.blk;rw[Sv.g]at h6;exact h6
    refine Nw ?_;intro oU hsz Ij NZ;obtain⟨err,Sw⟩:∃b,(fC x).err=b:=⟨_,rfl⟩;obtain⟨bad,hbad⟩:∃b,(fC x).bad=b:=⟨_,rfl⟩;obtain⟨At,nt,ct,htv⟩:∃a b c,m6.vl= .slice a b c:=by obtain⟨a,c,e,-⟩:=Kd.bL Ii.vl;exact⟨_,_,_,e⟩
    refine GX ?_;intro Au nu cu huv HF6 KZ HEB HTU;have HHT:=hide (And.intro (htv▸Ii.vl) (huv▸Ii.vu));unfold FM.cells at qx;rw[Sw,hbad,htv,huv]at qx;have K4:=hide qx;have Yb:=hide (And.intro (ay Ij) Ij);have Ik:=hide NZ;have g5:W6.cell? ⟨m.g,5,none⟩=some (.int .i64 err):=(aj qx 5).trans rfl;clear hq Ii Sv qx oU Ij NZ Sw hbad htv huv hsz n0 n1 n2 c3 HC;obtain⟨ze,z8⟩:∃z,(err==0)=z:=⟨_,rfl⟩;have Yc:(err != 0)=!ze:=by simp only[bne,z8]
    have WW:=hide z8;clear z8
    cases ze with
    |false=>
     have uP:err≠0:=by simpa using WW.out
     have HS:=hide (fun(W:World) (hb:Fr (fun k=>k=w.heap.size+1) W6 W)=>show W.cell? ⟨m.g,6,none⟩=some (.int .i64 bad)∧W.cell? ⟨m.g,5,none⟩=some (.int .i64 err)from⟨(aj ((hb.block _ (ay K4.out) Ik.out).trans K4.out) 6).trans rfl,(aj ((hb.block _ (ay K4.out) Ik.out).trans K4.out) 5).trans rfl⟩);have N7:=hide uP;clear uP;go_wp2;clear Yc g5;have hb0:Below W6.heap.size W6 W6.drew:=bq (Below.refl _ _);refine bX (n:=12) (S:=fun w'=>w'.cell? ⟨m.g,6,none⟩=some (.int .i64 bad)∧w'.cell? ⟨m.g,5,none⟩=some (.int .i64 err)) (ds:=[]) #[false,false,false,false,false,false,false,false,false,false,false,false] dL rfl rfl ⟨(HS.out _ (Fr.of_below hb0)).1,(HS.out _ (Fr.of_below hb0)).2⟩ (fun hHeld=>?_);obtain⟨wd,hwd⟩:∃wd,wd=W6.drew:=⟨_,rfl⟩;rw[←hwd]at hHeld⊢;refine Xm ?_;intro B0;clear hwd hb0;refine pv 0 49 ?_;refine pv 1 50 ?_;refine pv 2 51 ?_;refine pv 3 52 ?_;refine pv 5 54 ?_;refine pv 6 55 ?_;refine pv 7 56 ?_;refine tv 4 53 hHeld ?_;refine tv 8 57 hHeld ?_;refine iw (i:=9) (N:=none) #[true,true,true,true,true,true,true,true,true,true,false,false] rfl rfl dL wN (fun K hK=>?_);obtain⟨⟨⟨p0,r0⟩,⟨p1,r1⟩⟩,hB,hF⟩:=vk ((B0.out.block _ Yb.out.1).trans Yb.out.2) (.slice none 0 0) (.slice none 0 0);refine gy (w1:=?_) Nr rfl ?_ ?_;rotate_left
     ·go_simp
      rfl
     clear p0 r0 p1 r1;obtain⟨w9,hw⟩:∃x,((wd.setCell ⟨w.heap.size+1,0,none⟩ (.slice none 0 0)).setCell ⟨w.heap.size+1,1,none⟩ (.slice none 0 0))=x:=⟨_,rfl⟩;refine Xw ?_;clear hB hF;intro HFX dI FX;clear hw;refine hK.out _ _ ⟨(HS.out _ (FX.out)).1,(HS.out _ (FX.out)).2⟩ (fun hHeld=>?_);clear hK K;refine pv 10 3 ?_;refine pv 11 4 ?_;refine dP dL ?_;go_wp2
     try simp only[Exit.inBlock,Exit.then]
     refine yI ?_;intro e0 e1;refine bodyPost_ret (v:= .tuple #[.agg #[.slice none 0 0,.slice none 0 0],.int .i64 bad,.int .i64 err]) Pf rfl ?_;have wI:=abP.out;obtain⟨q1,q2⟩:=HEB.out;have xS:Below w.heap.size w w9:=KZ.out.trans (FX.out.below KZ.out.size (by rintro k rfl;omega));have p1:posR x=bad:=by unfold posR;rw[if_pos wI,if_neg (by rw[q1];exact N7.out),q2]
     have p2:oV x=err:=by unfold oV;rw[if_pos wI,q1]
     unfold DR;rw[p1,p2];exact⟨_,_,rfl,RV.none xS (fun e=>N7.out (by rw[←q1];exact e.2))⟩
    |true=>
     have uP:err=0:=by simpa using WW.out
     have HS:=hide (fun(W:World) (hb:Fr (fun k=>k=w.heap.size+1) W6 W)=>show W.cell? ⟨m.g,1,none⟩=some (.slice At nt ct)∧W.cell? ⟨m.g,2,none⟩=some (.slice Au nu cu)from⟨(aj ((hb.block _ (ay K4.out) Ik.out).trans K4.out) 1).trans rfl,(aj ((hb.block _ (ay K4.out) Ik.out).trans K4.out) 2).trans rfl⟩);have N7:=hide uP;clear uP;go_wp2;clear Yc g5;have hb0:Below W6.heap.size W6 W6.drew:=bq (Below.refl _ _);refine bX (n:=12) (S:=fun w'=>w'.cell? ⟨m.g,1,none⟩=some (.slice At nt ct)∧w'.cell? ⟨m.g,2,none⟩=some (.slice Au nu cu)) (ds:=[9]) #[false,false,false,false,false,false,false,false,false,false,false,false] dL rfl rfl ⟨(HS.out _ (Fr.of_below hb0)).1,(HS.out _ (Fr.of_below hb0)).2⟩ (fun hHeld=>?_);obtain⟨wd,hwd⟩:∃wd,wd=W6.drew:=⟨_,rfl⟩;rw[←hwd]at hHeld⊢;refine Xm ?_;intro B0;clear hwd hb0;refine pv 0 58 ?_;refine pv 1 59 ?_;refine pv 2 60 ?_;refine pv 4 62 ?_;refine pv 5 63 ?_;refine pv 6 64 ?_;refine tv 3 61 hHeld ?_;refine tv 7 65 hHeld ?_;refine pv 8 66 ?_;refine eF (i:=9) (N:=none) #[true,true,true,true,true,true,true,true,true,true,false,false] rfl rfl dL wN (fun K hK=>?_);obtain⟨⟨⟨p0,r0⟩,⟨p1,r1⟩⟩,hB,hF⟩:=vk ((B0.out.block _ Yb.out.1).trans Yb.out.2) (.slice At nt ct) (.slice Au nu cu);refine gy (w1:=?_) Nr rfl ?_ ?_;rotate_left
     ·go_simp
      rfl
     clear p0 r0 p1 r1;obtain⟨w9,hw⟩:∃x,((wd.setCell ⟨w.heap.size+1,0,none⟩ (.slice At nt ct)).setCell ⟨w.heap.size+1,1,none⟩ (.slice Au nu cu))=x:=⟨_,rfl⟩;refine Xw ?_;clear hB hF;intro HFX dI FX;clear hw;refine hK.out _ _ ?_;clear hK K;refine pv 10 3 ?_;refine pv 11 4 ?_;refine dP dL ?_;go_wp2
     try simp only[Exit.inBlock,Exit.then]
     refine yI ?_;intro e0 e1;refine bodyPost_ret (v:= .tuple #[.agg #[.slice At nt ct,.slice Au nu cu],.int .i64 0,.int .i64 0]) Pf rfl ?_;have wI:=abP.out;obtain⟨q1,q2⟩:=HEB.out;have xS:Below w.heap.size w w9:=KZ.out.trans (FX.out.below KZ.out.size (by rintro k rfl;omega));have hok:jw x=true∧(fC x).err=0:=⟨wI,q1.trans N7.out⟩;have p1:posR x=0:=by unfold posR;rw[if_pos wI,if_pos hok.2]
     have p2:oV x=0:=by unfold oV;rw[if_pos wI,hok.2]
     unfold DR;refine OD ?_;intro K9
     have hty:∀k,(bQ (.slice At nt ct) k∨bQ (.slice Au nu cu) k)→k≠w.heap.size+1:=fun k hk e=>by
      exact yF
     refine⟨.slice At nt ct,.slice Au nu cu,rfl,xS,?_,?_⟩
     ·unfold ig
      exact ZT
     ·unfold fZ
      exact Fe
theorem vo {x:Tr}(hf:Fit x)(hbig:(flat x).length≤1048576)(A:Option Addr)(c:Nat)(w:World)(hr:Rd w x A c):Calls Tryz.prog 7 #[nd x A c] w (DR x w):=by
 cases h:jw x with
 |false=>exact XV hf h A c w hr
 |true=>exact X0 hf h hbig A c w hr
end Go.Proofs.YtldgmneijipbjaaGreatDoor.H
