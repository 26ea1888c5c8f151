import Derived.Test.YtldgmneijipbjaaGreatDoorBQ6
import Derived.Test.YtldgmneijipbjaaGreatDoorBMac
set_option linter.unusedVariables false
set_option linter.unusedSimpArgs false
set_option maxRecDepth 100000
set_option maxHeartbeats 16000000
namespace Go.Proofs.YtldgmneijipbjaaGreatDoor.H
open Go.RowKit Go.Shelf Go.Maps Go.WideMaps Go.Proofs.YtldgmneijipbjaaGreatDoorW.PrintWords Go.Proofs.YtldgmneijipbjaaGreatDoorW.PrintLast Go.Proofs.YtldgmneijipbjaaGreatDoorW.PrintMore
open PScopeOwn
theorem Lm (ad:Addr):ad.add (1*4)=⟨ad.block,ad.off+4,none⟩:=by unfold Addr.add;simp
theorem aoR (w0:World)(D:Nat):kI w0 D 18:=by
 intro s n l hf ha hk hw A c w m st pos hb hr h hbd;refine kG ?_;intro hss hlc;have hpos:=bC ⟨18,s,n,l⟩;have fD:(aM (⟨18,s,n,l⟩:Tr).f3).length=(aM l).length:=rfl;refine mZ ?_;clear hpos;intro hpos hp0 hp1 qU hlo htp hnn hlo2 jC hlo0 hno;obtain⟨a,b,hab⟩:=hlc.asg rfl;simp only at hab;have hwk:kR st pos ⟨18,s,n,l⟩=wB st pos l:=yK;have hk0:(⟨18,s,n,l⟩:Tr).f3[0]?=some a:=by simp only;rw[hab];rfl
 have hk1:(⟨18,s,n,l⟩:Tr).f3[1]?=some b:=by simp only;rw[hab];rfl
 obtain⟨ad,A1,c1,rfl,hr1,hcl⟩:=hr.kid hk0;obtain⟨JB,A2,c2,aoS,hr2,agF⟩:=hr.kid hk1
 cases aoS
 have ham:a∈l:=by rw[hab];simp
 have Ww:b∈l:=by rw[hab];simp
 have agG:bM a:=ha.kid (show(18:Int)≠64 from wN) ham;have hfa:a.f1.size≤1099511627776:=(hf.kid (y:=a) ham).str;have YM:(aM l).length=(flat a).length+(flat b).length:=by rw[hab];simp[aM]
 have hpa:=oM a;refine Gp ?_;intro len hlen W1 hW1 hb1 hx1 hf1 hl1 b0 b1 b2 b3 HR HB HB1 gF gK jD gN lX jF vJ HLEN;have EB:=hide hlo2;unfold nd;simp only;rw[hlen];obtain⟨rs,hrs⟩:∃r,kR st pos ⟨18,s,n,l⟩=r:=⟨_,rfl⟩;refine X8 ?_;clear hrs;intro hrs jo
 have HKC:=hide (show∀(w2:World) (m1:RM) (s1:RS),m.Up W1 m1→Fr m.own W1 w2→RF D w2 m1 s1→s1.uses.length≤st.uses.length+1→s1.aT=st.aT→s1.aN=st.aN→Calls Tryz.prog 24 #[.pointer (some ⟨m.g,0,none⟩),.agg #[.int .i64 18,.string s,.int .i64 n,.slice (some ad) len c],.int .i64 pos] w2 fun e w'=>e= .returned (.tuple #[])∧Rk D m (b_ s1 (pos+1) l) w w' from fun w2 m1 s1 hu hf2 hfin h1 h2 h3=>by
  have hcall:=hk (by first|decide|assumption) (some ad) c w2 m1 s1 pos (gK.out.bR jD.out hf2) HR.out hfin hp0 ⟨aG,bN,bN,by rw[h2];simp only;exact Nat.le_trans (Nat.le_add_right _ 1048576) EB.out,by rw[h3];exact htp,bN⟩;unfold nd at hcall;simp only at hcall;rw[HLEN.out,hu.g]at hcall;refine hcall.mono ?_;rintro e w' ⟨rfl,hq⟩;exact⟨rfl,Rk.shift HB1.out (Rk.trans hu hf2 hq)⟩)
 obtain⟨k0,k1,k2,k3⟩:=hcl W1 (fun k hk=>hl1.block k hk);simp only[SC]at k0 k1 k2 k3;have hl0:(0:Int)<(len:Int):=by rw[←hlen,hab];simp
 have auO:(1:Int)<(len:Int):=by rw[←hlen,hab];simp
 obtain⟨an,han⟩:∃q,a.f3.length=q:=⟨_,rfl⟩;rw[han]at k3;have hw1:wrap64 (pos+1)=pos+1:=zy;have hw2:wrap64 (pos+2)=pos+2:=zy;have HU:=hide (CK hf1 a.f1 (pos+1) htp jC hlo0);have HWB:=hide (hw wN b Ww);have HR2:=hide hr2;have ajW:=hide agF;by_cases h6:a.f0=6
 ·have hza:a.f3=[]:=agG.loc.nm h6
  have hsa:sz a=1:=by unfold sz;rw[gD,hza];simp[aM]
  have e1:wB st pos l=kR (if(st.use a.f1 (pos+1)).2=true then(st.use a.f1 (pos+1)).1 else(st.use a.f1 (pos+1)).1.fail pos 92) (pos+2) b:=by rw[hab,wB,if_pos h6]
  rw[h6]at k0;obtain⟨u,hu⟩:∃u,st.use a.f1 (pos+1)=u:=⟨_,rfl⟩;obtain⟨u1,u2⟩:=u;have hgr:=rU st a.f1 (pos+1);rw[hu]at hgr;have HGR:=hide hgr;rw[hu]at HU;rw[hu]at e1;simp only at e1 HU hgr;have hrs:=jo.out;rw[e1]at hrs;have jo:=hide hrs;have qm:=hide (And.intro YM hpa)
  have HBF:=hide (fun(w2:World) (m1:RM) (s1:RS) (hu:m.Up W1 m1) (hf2:Fr m.own W1 w2) (hfin:RF D w2 m1 s1) (h1:s1.uses.length≤st.uses.length+1) (h2:s1.aT=st.aT) (h3:s1.aN=st.aN)=>show Calls Tryz.prog 50 #[.pointer (some ⟨m.g,0,none⟩),nd b A2 c2,.int .i64 (pos+2)] w2 (fun e w'=>e= .returned (.tuple #[])∧Rk D m (kR s1 (pos+2) b) w w')from by
   have hfl:=qm.out;have hcall:=HWB.out A2 c2 w2 m1 s1 (pos+2) (gK.out.bR jD.out hf2) HR2.out hfin ⟨aG,aG,aG,by rw[h2];exact Nat.le_trans (Nat.add_le_add_left (Nat.mul_le_mul_right 1048576 aG) _) (Nat.le_trans (Nat.le_add_right _ 1048576) EB.out),by rw[h3];exact htp,aG⟩;rw[hu.g]at hcall;refine hcall.mono ?_;rintro e w' ⟨rfl,hq⟩;exact⟨rfl,Rk.shift HB1.out (Rk.trans hu hf2 hq)⟩)
  clear hf ha hk hw hb hr h hbd hlc hb1 hx1 hf1 hl1 hno fD hlen hpos hab hk0 hk1 hr1 hcl hr2 agF ham Ww agG hfa YM hpa han hlo hlo2 hrs hwk h6 hza hsa e1 hu hgr;go_enter Tryz.func50,Tryz.ntmps50;go_wp2_with (go_at_call 99;refine Aside0.out ?_);refine⟨?_⟩;refine HU.out.mono ?_;rintro e w2 ⟨rfl,hq⟩;obtain⟨m1,hm1,hu1⟩:=hq.fin;have hx2:=(hq.fr.block _ (ay gF.out) gN.out).trans gF.out;have HX2:=hide hx2;have HQ:=hide hq;have SF:=hide hm1;have rZ:=hide hu1;have e3:w2.cell? ⟨w.heap.size,3,none⟩=some (.slice (some ad) len c):=(aj hx2 3).trans rfl;clear hq hm1 hu1 hx2 hW1 b0 b1 b2 b3 k0 k1 k2 k3
  cases u2 with
  |true=>
   have hlow:=HQ.out.bR gK.out jD.out;obtain⟨j0,j1,j2,j3⟩:=ajW.out w2 (fun k hk=>hlow.block k hk);simp only[Lm]at j0 j1 j2 j3;have hgr:=HGR.out;have HC:=hide (HBF.out w2 m1 u1 rZ.out HQ.out.fr SF.out hgr.uses hgr.aT hgr.aN);unfold nd at HC;clear hlow hgr;go_wp2_with (go_at_call 50;refine HC.out.mono ?_;rintro e w9 ⟨rfl,hq⟩;have HQ9:=hide hq;clear hq)
   ((try simp only[Exit.inBlock,Exit.then]);refine bodyPost_ret (results_none rfl _ _ _) rfl ?_)
   have hrs:=jo.out;simp only[if_true]at hrs;rw[←hrs];exact⟨rfl,HQ9.out⟩
  |false=>
   have hfl:=jg SF.out pos 92;rw[rZ.out.g]at hfl;have aoT:=hide hfl;clear hfl;go_wp2_with (go_at_call 98;refine Aside0.out ?_);refine⟨?_⟩;refine aoT.out.mono ?_;rintro e w4 ⟨rfl,h5,h6'⟩;have ab0:Fr m.own W1 w4:=HQ.out.fr.trans h6' (fun k e=> .inl (.inl e));have hx4:=(ab0.block _ (ay gF.out) gN.out).trans gF.out;have e4:w4.cell? ⟨w.heap.size,3,none⟩=some (.slice (some ad) len c):=(aj hx4 3).trans rfl;have hlow:=gK.out.bR jD.out ab0;obtain⟨j0,j1,j2,j3⟩:=ajW.out w4 (fun k hk=>hlow.block k hk);simp only[Lm]at j0 j1 j2 j3;have hgr:=HGR.out;have hgf:=Rg.fail u1 pos 92 wN;have HC:=hide (HBF.out w4 m1 _ rZ.out ab0 h5 (by have:=hgf.uses;have:=hgr.uses;omega) (hgf.aT.trans hgr.aT) (hgf.aN.trans hgr.aN));unfold nd at HC;clear hlow hgr hgf h5 h6' ab0 hx4 e3;go_wp2_with (go_at_call 50;refine HC.out.mono ?_;rintro e w9 ⟨rfl,hq⟩;have HQ9:=hide hq;clear hq)
   ((try simp only[Exit.inBlock,Exit.then]);refine bodyPost_ret (results_none rfl _ _ _) rfl ?_)
   have hrs:=jo.out;simp only[Bool.false_eq_true,if_false]at hrs;rw[←hrs];exact⟨rfl,HQ9.out⟩
 ·have e1:wB st pos l=b_ st (pos+1) l:=by rw[hab,wB,if_neg h6,b_,b_,b_]
  have hrs:=jo.out;rw[e1]at hrs;have jo:=hide hrs;have z6:(a.f0==6)=false:=YA;have HC:=hide (HKC.out W1 m st (RM.Up.refl _ _) (Fr.refl _ _) hf1 aG rfl rfl);clear hf ha hk hw hb hr h hbd hlc hb1 hx1 hf1 hl1 hno fD hlen hpos hab hk0 hk1 hr1 hcl hr2 agF ham Ww agG hfa YM hpa han hlo hlo2 hrs hwk h6 e1;go_enter Tryz.func50,Tryz.ntmps50;exact Ll
structure FI (D:Nat)(m:RM)(st:RS)(s:ByteArray)(pos:Int)(l:List Tr)(bx:Nat)(n:Int)(A:Option Addr)(len c:Nat)(w1:World)(i:Nat)(p:Int)(wr:World):Prop where
 q:Rk D m (tu st s (pos+1) (l.take i)) w1 wr
 box:wr.heap[bx]?=some (.cells #[.int .i64 64,.string s,.int .i64 n,.slice A len c] 24 (0,0))
 p:p=pos+1+(aM (l.take i)).length
theorem aoU (w0:World)(D:Nat):kI w0 D 64:=by
 intro s n l hf ha hk hw A c w m st pos hb hr h hbd;refine kG ?_;intro hss hlc;have hpos:=bC ⟨64,s,n,l⟩;have fD:(aM (⟨64,s,n,l⟩:Tr).f3).length=(aM l).length:=rfl;refine mZ ?_;clear hpos;intro hpos hp0 hp1 qU hlo htp hnn hlo2 jC hlo0 hno;have hwk:kR st pos ⟨64,s,n,l⟩=tu st s (pos+1) l:=yK;refine OW ?_;intro len hlen;refine Ya ?_;intro W1 hW1;refine F9 ?_;intro hb1;refine X6 ?_;intro hx1;refine OQ ?_;intro hf1 hl1;refine Yd ?_;intro b0;refine FY ?_;intro b1 b2 b3 HR HB HB1 gF gK jD gN lX jF;refine YP ?_;intro vJ HLEN EB;obtain⟨rs,hrs⟩:∃r,kR st pos ⟨64,s,n,l⟩=r:=⟨_,rfl⟩;refine X8 ?_;clear hrs;intro hrs jo;have H0:=hide h;have hlb:len≤1099511627776:=by rw[←hlen];exact hf.len2
 obtain⟨ze,z8⟩:∃z,s.toList.isEmpty=z:=⟨_,rfl⟩;have WW:=hide z8;have hzs:(s.toList==[])=ze:=by rw[←z8];cases s.toList<;>rfl
 have hw0:wrap64 (pos+1)=pos+1:=zy;have HFE:=hide hpos;have Q0:=hide (show FI D m st s pos l w.heap.size n A len c W1 0 (pos+1) W1 from⟨by rw[List.take_zero,tu];exact Rk.of_below hf1 (Below.refl _ _),hx1,Oe⟩);clear hf ha hk hw hb hr h hbd hlc hb1 hx1 hf1 hl1 hno fD hlen hpos z8 hlo hlo2 hrs hwk;go_enter Tryz.func50,Tryz.ntmps50;go_wp2;clear hW1 b0 b1 b2 b3 hw0;go_loopg [9,8] (len+1) (fun gk v9 v8 wr=>∃(i:Nat) (p:Int),i≤len∧len-i<gk∧v9= .int .i64 i∧v8= .int .i64 p∧(i=0∨ze=true)∧Aside0 (FI D m st s pos l w.heap.size n A len c W1 i p wr))
 case atStart=>exact⟨0,pos+1,Nat.zero_le _,aG,rfl,rfl,.inl rfl,Q0⟩
 case round=>
  obtain⟨i,p,hi,lS,rfl,rfl,hiz,Q⟩:=hrel;clear Q0;refine Il ?_;intro b3;have b1:wr.cell? ⟨w.heap.size,1,none⟩=some (.string s):=(aj Q.out.box 1).trans rfl;by_cases hlt:i<len
  ·have eY:(i:Int)<(len:Int):=aG
   cases ze with
   |false=>
    have hi0:i=0:=by rcases hiz with h|h;exact h;cases h
    have hq:=Q.out.q
    have hfr:∀(l:List Tr) (p:Int),tu st s p l=st:=by
     intro l
     induction l with
     |nil=>intro p;rfl
     |cons x l ih=>intro p;rw[tu,WW.out,if_neg qo];exact ih _
    rw[hfr]at hq;have Yn:=hide hfr;have HQ0:=hide hq;clear hfr hq;go_wp2
    all_goals
     go_end0;rw[←jo.out,Yn.out];exact⟨rfl,Rk.shift HB1.out HQ0.out⟩
   |true=>
    obtain⟨y,hy⟩:=eO (l:=l) (i:=i) (by rw[HLEN.out];exact hlt);obtain⟨ad,A',c',rfl,dR,hcells⟩:=HR.out.kid (x:=⟨64,s,n,l⟩) hy;refine GR ?_;intro hbw k0 k1 k2 k3;have iH:=hide hy;have kC:=hide dR;have HCE:=hide hcells;have sV:=hide hbw;obtain⟨m1,hf1,hu1⟩:=Q.out.q.fin;have hgr:=M5 (l.take i) st s (pos+1);have htk:(l.take i).length=i:=by rw[List.length_take,HLEN.out];omega
    have htl:=take_len (x:=⟨64,s,n,l⟩) iH.out;simp only at htl;have hfe:=HFE.out;have hpp:=Q.out.p;have hu4:=hgr.uses;rw[htk]at hu4;have hkl:=jY l;have hle:=HLEN.out;have hcall:=CJ hf1 y.f1 p false (by rw[hgr.aN];exact htp) aG;rw[hu1.g]at hcall;have HC:=hide hcall;refine gI ?_;intro q hs hs0 hws;have hyl:(flat y).length≤1099511627776:=aG;have Jp:=hide hyl;have HS:=hide hs;have xR:¬m1.own w.heap.size:=fun k=>(hu1.own _ k).elim gN.out (fun q=>by have:=ay gF.out;omega);have G8:=hide xR;have II:=hide hf1;have rZ:=hide hu1;have Kl:=hide hpp;clear hy dR hcells hbw hf1 hu1 hgr htk htl hfe hpp hu4 hkl hle hcall hs hs0 hyl xR;go_wp2_with (go_at_call 104;refine Aside0.out ?_);refine⟨?_⟩;refine HC.out.mono ?_;rintro e w2 ⟨rfl,hq⟩;have hb3:=hq.bR II.out sV.out;have j5:=(hq.fr.block _ (ay Q.out.box) G8.out).trans Q.out.box;have lW:=hide (mY y (jF.out.kid (y:=y) (List.mem_of_getElem? iH.out)) Jp.out A' c' w2 (kC.out.kids w2 (fun k hk _=>hb3.block k hk)) kC.out.cap);rw[HS.out]at lW
    have QN:=hide (show∀w3,Below w2.heap.size w2 w3→FI D m st s pos l w.heap.size n (some ad) len c W1 (i+1) (p+q) w3 from fun w3 h3=>by
     refine⟨?_,(h3.block _ (ay j5)).trans j5,?_⟩
     ·rw[bJ iH.out,Ka,WW.out,if_pos rfl,←Kl.out]
      exact(Rk.trans rZ.out Q.out.q.fr hq).more h3
     ·rw[bJ iH.out,gU,HS.out,Kl.out];omega)
    obtain⟨j0,j1,j2,j3⟩:=HCE.out w2 (fun k hk=>hb3.block k hk);have d3:w2.cell? ⟨w.heap.size,3,none⟩=some (.slice (some ad) len c):=(aj j5 3).trans rfl;clear hq hb3 j5 k0 k1 k2 k3 b3 b1;unfold nd at lW;go_wp2_with (go_at_call 12;refine lW.out.mono ?_;rintro e w3 ⟨rfl,h3⟩;have Q2:=hide (QN.out w3 h3);clear h3);go_roundg (len-i)
    case measure=>omega
    case rel=>exact⟨i+1,p+q,aG,aG,Nb,by rw[hws],.inr (by first|rfl|trivial),Q2⟩
  ·exact Xo
theorem SG (w0:World)(D:Nat)(k:Nat):∀x:Tr,SizeOf.sizeOf x≤k→Fit x→bM x→zm w0 D x:=by
 induction k with
 |zero=>intro x hx;obtain⟨a,b,c,d⟩:=x;simp[jh.mk.sizeOf_spec]at hx
 |succ k ih=>
  intro x hx hf ha;have hw:x.f0≠64→∀y,y∈x.f3→zm w0 D y:=fun hn y hy=>ih y (by have:=fJ hy;omega) (hf.kid hy) (ha.kid hn hy);have hk:x.f0≠64→IB w0 D x:=fun hn=>EA hf (hw hn);obtain⟨t,s,n,l⟩:=x;simp only at hw hk
  have go:∀q:Int,t=q→kI w0 D q→zm w0 D ⟨t,s,n,l⟩:=fun q e hq=>by
   subst e;exact hq s n l hf ha hk hw
  by_cases h6:t=6;·exact go 6 h6 (rw6 w0 D)
  by_cases h20:t=20;·exact go 20 h20 (aoG w0 D)
  by_cases qI:t=30;·exact go 30 qI (aoQ w0 D)
  by_cases h18:t=18;·exact go 18 h18 (aoR w0 D)
  by_cases h7:t=7;·exact go 7 h7 (rw7 w0 D)
  by_cases h50:t=50;·exact go 50 h50 (aoH w0 D)
  by_cases h11:t=11;·exact go 11 h11 (aoL w0 D)
  by_cases lU:t=41;·exact go 41 lU (aoI w0 D)
  by_cases Jq:t=44;·exact go 44 Jq (aoJ w0 D)
  by_cases h45:t=45;·exact go 45 h45 (aoK w0 D)
  by_cases h43:t=43;·exact go 43 h43 (aoM w0 D)
  by_cases qJ:t=52;·exact go 52 qJ (aoO w0 D)
  by_cases mh:t=60;·exact go 60 mh (aoP w0 D)
  by_cases h64:t=64;·exact go 64 h64 (aoU w0 D)
  exact go t rfl (rwD w0 D t h6 h20 qI h18 h7 h50 h11 lU Jq h45 h43 qJ mh h64)
end Go.Proofs.YtldgmneijipbjaaGreatDoor.H
