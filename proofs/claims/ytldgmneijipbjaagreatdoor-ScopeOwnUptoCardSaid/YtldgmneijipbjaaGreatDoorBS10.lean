import Derived.Test.YtldgmneijipbjaaGreatDoorBS8
import Derived.Test.YtldgmneijipbjaaGreatDoorBG1
import Derived.Test.YtldgmneijipbjaaGreatDoorBMac
set_option linter.unusedVariables false
set_option linter.unusedSimpArgs false
set_option maxRecDepth 100000
set_option maxHeartbeats 16000000
namespace Go.Proofs.YtldgmneijipbjaaGreatDoor.H
open Go.RowKit Go.Shelf Go.Proofs.YtldgmneijipbjaaGreatDoorW.PrintWords Go.Proofs.YtldgmneijipbjaaGreatDoorW.PrintLast Go.Proofs.YtldgmneijipbjaaGreatDoorW.PrintMore
open PScopeOwn
def sW (y:Tr):Bool:=if y.f0=43 then QR [(.no,.T),(.i,.E)] y.f3 else if y.f0=44 then y.f1.toList.isEmpty&&QR [(.i,.P),(.bk,.S)] y.f3 else if y.f0=45 then QR [(.i,.P),(.no,.T),(.bk,.S)] y.f3 else false
def afe (s:ByteArray):Bool:=s.toList==[99,111,110,115,116,114,117,99,116,111,114]
def BL (t:Int)(y:Tr):Bool:=!decide (y.f0<t)&&(!(y.f0==44&&t==44)&&(!(y.f2 != 0)&&(sW y&&(y.f0==44||(eP y.f1&&!afe y.f1)))))
def kg:Int→List Tr→Bool
 |_,[]=>true
 |t,y::l=>BL t y&&kg y.f0 l
def yM (y:Tr):Bool:=!(y.f0==44)
def l8 (x:Tr):Bool:=(x.f0==42&&(nH x.f1&&x.f2==0))&&(kg 43 x.f3&&nN (x.f3.filter yM))
structure KQ (w:World)(l:List Tr)(i:Nat)(t:Int)(v4:Value)(wr:World):Prop where
 below:Below w.heap.size w wr
 row:∃ys,KV.R 24 wr w.heap.size (fun k=>w.heap.size≤k) v4 ys∧Lays w w.heap.size ((l.take i).filter yM) ys
 eq:kg 43 l=kg t (l.drop i)
theorem uq {l:List Tr}{i:Nat}{y:Tr}(h:l[i]?=some y):(l.take (i+1)).filter yM=(l.take i).filter yM++(if yM y then[y]else[]):=by
 have hi:=(List.getElem?_eq_some_iff.1 h).1;rw[List.take_succ_eq_append_getElem hi,(List.getElem?_eq_some_iff.1 h).2,List.filter_append];by_cases e:yM y<;>simp[e]
theorem KQ.same {w wr w2:World}{l:List Tr}{i:Nat}{t:Int}{v4:Value}{y:Tr}(q:KQ w l i t v4 wr)(hy:l[i]?=some y)(hok:BL t y=true)(hn:yM y=false)(hb:Below wr.heap.size wr w2):KQ w l (i+1) y.f0 v4 w2:=by
 refine⟨q.below.trans (hb.mono q.below.size),?_,by rw[q.eq,drop_at hy,kg,hok,Bool.true_and]⟩;obtain⟨ys,h1,h2⟩:=q.row;rw[uq hy,hn];exact⟨ys,Kd.bS h1 hb,wz⟩
theorem KQ.more {w wr w2:World}{l:List Tr}{i:Nat}{t:Int}{v4 v5:Value}{y:Tr}{A:Option Addr}{c:Nat}{ys:List (List Value)}(q:KQ w l i t v4 wr)(hy:l[i]?=some y)(hok:BL t y=true)(hn:yM y=true)(hb:Below w.heap.size w w2)
  (h2:Lays w w.heap.size ((l.take i).filter yM) ys)(hr:KV.R 24 w2 w.heap.size (fun k=>w.heap.size≤k) v5 (ys++[Ao y A c]))(hF:Ap w (fun k=>k<w.heap.size) y A c):KQ w l (i+1) y.f0 v5 w2:=by
 refine⟨hb,⟨_,hr,?_⟩,by rw[q.eq,drop_at hy,kg,hok,Bool.true_and]⟩;rw[uq hy,hn];exact h2.append (Lays.one hF)
theorem MS (x:Tr)(hf:Fit x)(A:Option Addr)(c:Nat)(w:World)(hr:Rd w x A c)(hbig:x.f3.length≤1099511627776):Calls Tryz.prog 33 #[nd x A c] w (aH w (l8 x)):=by
 obtain⟨k,s,n,l⟩:=x;unfold l8;simp only;have FE:=hide (fun W h=>vN (x:=⟨k,s,n,l⟩) hf hr (W2:=W) h);have HB0:=hide (au (Below.refl w.heap.size w) (.cells #[.int .i64 k,.string s,.int .i64 n,.slice A l.length c] 24));unfold nd;simp only;by_cases hk:k=42
 case neg=>
  have z0:(k != 42)=true:=MU;have z1:(k==42)=false:=MU;clear hf hr hk FE;rw[z1];go_enter Tryz.func33,Tryz.ntmps33;go_wp2;go_ret;exact⟨rfl,HB0.out⟩
 subst hk;obtain⟨b,hb⟩:∃b,nH s=b:=⟨_,rfl⟩;rw[hb]at FE⊢;clear hb
 cases b with
 |false=>
  clear hf hr;exact adb
 |true=>
 by_cases hn:n=0
 case neg=>
  have z0:(n != 0)=true:=by simpa using hn
  have z1:(n==0)=false:=by simpa using hn
  clear hf hr hn;rw[z1];exact adb
 subst hn;have uu:=uo (SizeOf.sizeOf (⟨42,s,0,l⟩:Tr));have jF:=hide hf;have PE:=hide hr;have HRF:=hide (show Ap w (fun k=>k<w.heap.size) ⟨42,s,0,l⟩ A c from⟨Kd.C_F FC hr.kids,hr.cap⟩);have Dr:=hide (show l.length≤1099511627776 from hbig);obtain⟨len,hlen⟩:∃len,l.length=len:=⟨_,rfl⟩;have hlb:len≤1099511627776:=by rw[←hlen];exact hbig
 have HL:=hide hlen;rw[hlen]at HB0⊢;clear hf hr hbig hlen;go_enter Tryz.func33,Tryz.ntmps33;go_wp2_with (go_at_call 54;refine(FE.out _ HB0.out).mono ?_;rintro e w1 ⟨rfl,h1⟩;obtain⟨c10,c11,c12,c13,hb⟩:=ji h1;have HB1:=hide hb;clear h1 hb);clear c10 c11 c12 c13;have Q0:=hide (show KQ w l 0 43 (.slice none 0 0) w1 from⟨HB1.out,⟨[],Kd.jm _ _ _ _ _,by simpa using Lays.nil w w.heap.size⟩,qo⟩);go_loopg [3,4,25] (len+1) (fun gk v3 v4 v25 wr=>∃(i:Nat) (t:Int),i≤len∧len-i<gk∧v25= .int .i64 i∧v3= .int .i64 t∧Aside0 (KQ w l i t v4 wr))
 case atStart=>exact⟨0,43,Nat.zero_le _,aG,rfl,rfl,Q0⟩
 case round=>
  obtain⟨i,t,hi,lS,rfl,rfl,Q⟩:=hrel;clear Q0;by_cases hlt:i<len
  ·refine l7 ?_
   intro eY y hy;obtain⟨ad,A',c',rfl,dR,hcells⟩:=HRF.out.kid hy;obtain⟨k0,k1,k2,k3⟩:=hcells wr (fun k hk=>Q.out.below.block k hk);have g_:=jF.out.kid (bZ (x:=(⟨42,s,0,l⟩:Tr)) hy);have aff:Rd wr y A' c':=dR.rd (fun k hk=>Q.out.below.block k hk) (PE.out.tab.below Q.out.below);have HY:=hide hy;have kC:=hide dR;have Jo:=hide g_;have hstep:=Q.out.eq;rw[drop_at hy,kg]at hstep;have ade:=hide hstep;have iy:=hide (fun h=>Q.out.same (w2:=wr) hy h);obtain⟨yk,ys,yn,yl⟩:=y;simp only at k0 k1 k2 k3;have afg:=hide aff;have qK:=hide (fun W h=>pF (x:=⟨yk,ys,yn,yl⟩) g_ aff (W2:=W) h);simp only at qK;obtain⟨yn3,afh⟩:∃z,(yn != 0)=z:=⟨_,rfl⟩;obtain⟨zt,Ec⟩:∃z,decide (yk<t)=z:=⟨_,rfl⟩;obtain⟨zc,hzc⟩:∃z,(ys.toList==[99,111,110,115,116,114,117,99,116,111,114])=z:=⟨_,rfl⟩;have hcc:afe ys=zc:=hzc;obtain⟨zp,iO⟩:∃z,eP ys=z:=⟨_,rfl⟩;obtain⟨jd,fA⟩:∃z,yl.length=z:=⟨_,rfl⟩;have Jp:=hide fA;rw[iO]at qK;have HB:=hide (au (Below.refl wr.heap.size wr) (.cells #[.int .i64 yk,.string ys,.int .i64 yn,.slice A' jd c'] 24));clear hy dR g_ aff hcells hstep iy;simp only[fA]at k3;clear fA;by_cases h43:yk=43
   ·subst h43
    obtain⟨q,hq⟩:∃q,QR [(.no,.T),(.i,.E)] yl=!q:=⟨!QR [(.no,.T),(.i,.E)] yl,qo⟩;have lq:=hide (show∀W,Below wr.heap.size wr W→Calls Tryz.prog 55 #[.agg #[.int .i64 43,.string ys,.int .i64 yn,.slice A' jd c'],.slice (some ⟨W.heap.size,0,none⟩) 2 2] (W.alloc (.cells #[.func (.func 61) #[] #[],.func (.func 35) #[] #[]] 39)) (aH W (!q))from fun W h=>by rw[←hq,←Jp.out];exact jP (jW.cons (f:=(61,(.no,.T))) Ru (Rv uu) (jW.cons (f:=(35,(.i,.E))) Ea uu.E jW.nil)) wN ⟨43,ys,yn,yl⟩ (fun z hz=>by have h1:=fJ (x:=(⟨43,ys,yn,yl⟩:Tr)) hz;have h2:=fJ (x:=(⟨42,s,0,l⟩:Tr)) (bZ (x:=(⟨42,s,0,l⟩:Tr)) HY.out);omega) Jo.out A' c' W (afg.out.below h));have lq:=hide (show Calls Tryz.prog 55 #[.agg #[.int .i64 43,.string ys,.int .i64 yn,.slice A' jd c'],.slice (some ⟨wr.heap.size+1,0,none⟩) 2 2] ((wr.alloc (.cells #[.int .i64 43,.string ys,.int .i64 yn,.slice A' jd c'] 24)).alloc (.cells #[.func (.func 61) #[] #[],.func (.func 35) #[] #[]] 39)) (aH (wr.alloc (.cells #[.int .i64 43,.string ys,.int .i64 yn,.slice A' jd c'] 24)) (!q))from I_);have HM:=hide (show sW (⟨43,ys,yn,yl⟩:Tr)=!q from by unfold sW;simp[hq]);have iy:=hide (show BL t (⟨43,ys,yn,yl⟩:Tr)=(!zt&&(!false&&(!yn3&&(!q&&(zp&&!zc)))))from by unfold BL;simp only;rw[HM.out,afh,iO,hcc,Ec];simp);clear hq hcc iO;go_wp2_with (first|(go_at_call 55;refine lq.out.mono ?_;rintro e w2 ⟨rfl,h2⟩;obtain⟨c20,c21,tH,c23,hb⟩:=ji h2;have HB2:=hide hb;clear h2 hb)|(go_at_call 66;refine(qK.out _ HB2.out).mono ?_;rintro e w3 ⟨rfl,h3⟩;have Rz:=ak h3 c20;have c31:=ak h3 c21;have c32:=ak h3 tH;have RA:=ak h3 c23;have HB3:=hide (HB2.out.trans (h3.mono HB2.out.size));clear h3)|((with_reducible refine cO (b:= .append) (xs:=#[.tmp 85,.tmp 87]) rfl ?_);at_builtin;refine Aside0.out ?_))
    all_goals try (go_ret;first|exact⟨aI rE,Q.out.below.trans (HB3.out.mono Q.out.below.size)⟩|exact⟨aI rE,Q.out.below.trans (HB2.out.mono Q.out.below.size)⟩|exact⟨aI rE,Q.out.below.trans (HB.out.mono Q.out.below.size)⟩)
    refine⟨?_⟩;refine dW ?_;intro zs hz1 hz2 hzl HD;refine Kd.gP KV (w0:=w) w.heap.size rfl (.tmp 85) (.tmp 87) 22 24 (.agg #[.int .i64 0,.string ⟨#[]⟩,.int .i64 0,.slice none 0 0]) 56 rfl Tryz.underlying22 rD rfl wN aG u4 zs (Ao (⟨43,ys,yn,yl⟩:Tr) A' c') [.int .i64 43,.string ys,.int .i64 yn,.slice A' jd c'] (fun k=>w.heap.size≤k) (fun _=>False) rfl rfl ⟨by rw[←Jp.out],rfl,eU⟩ (fun _ hk=>hk.elim) (fun k hk=>Nat.le_trans HD.out.size hk) (Kd.bS hz1 HB3.out) HD.out HD.out.size aG ?_;intro v5 w4 h1 h2 h3 h4;have Q2:=hide (Q.out.more HY.out gu rfl h2 hz2 h1 kC.out);clear h1 h2 h3 h4 hz1 hz2 hzl;go_wp2;go_roundg (len-i)
    case measure=>omega
    case rel=>exact⟨i+1,43,aG,aG,Nb,rfl,Q2⟩
   by_cases Jq:yk=44
   ·subst Jq
    obtain⟨q,hq⟩:∃q,QR [(.i,.P),(.bk,.S)] yl=!q:=⟨!QR [(.i,.P),(.bk,.S)] yl,qo⟩;have lq:=hide (show∀W,Below wr.heap.size wr W→Calls Tryz.prog 55 #[.agg #[.int .i64 44,.string ys,.int .i64 yn,.slice A' jd c'],.slice (some ⟨W.heap.size,0,none⟩) 2 2] (W.alloc (.cells #[.func (.func 62) #[] #[],.func (.func 63) #[] #[]] 39)) (aH W (!q))from fun W h=>by rw[←hq,←Jp.out];exact jP (jW.cons (f:=(62,(.i,.P))) enP ((tlP uu).mono (Nat.le_succ _)) (jW.cons (f:=(63,(.bk,.S))) enB (tlB uu) jW.nil)) wN ⟨44,ys,yn,yl⟩ (fun z hz=>by have h1:=fJ (x:=(⟨44,ys,yn,yl⟩:Tr)) hz;have h2:=fJ (x:=(⟨42,s,0,l⟩:Tr)) (bZ (x:=(⟨42,s,0,l⟩:Tr)) HY.out);omega) Jo.out A' c' W (afg.out.below h));have lq:=hide (show Calls Tryz.prog 55 #[.agg #[.int .i64 44,.string ys,.int .i64 yn,.slice A' jd c'],.slice (some ⟨wr.heap.size+1,0,none⟩) 2 2] ((wr.alloc (.cells #[.int .i64 44,.string ys,.int .i64 yn,.slice A' jd c'] 24)).alloc (.cells #[.func (.func 62) #[] #[],.func (.func 63) #[] #[]] 39)) (aH (wr.alloc (.cells #[.int .i64 44,.string ys,.int .i64 yn,.slice A' jd c'] 24)) (!q))from I_);obtain⟨ze,z8⟩:∃z,ys.toList.isEmpty=z:=⟨_,rfl⟩;have anm:(ys.toList==[])=ze:=by rw[←z8];cases ys.toList<;>rfl
    obtain⟨z4,hz4⟩:∃z,(t==44)=z:=⟨_,rfl⟩;have HM:=hide (show sW (⟨44,ys,yn,yl⟩:Tr)=(ze&&!q)from by rw[←z8];unfold sW;simp[hq]);have iy:=hide (show BL t (⟨44,ys,yn,yl⟩:Tr)=(!zt&&(!z4&&(!yn3&&((ze&&!q)&&true))))from by unfold BL;simp only;rw[HM.out,afh,iO,hcc,Ec];rw[hz4];simp);clear hq hcc iO z8;go_wp2_with (first|(go_at_call 55;refine lq.out.mono ?_;rintro e w2 ⟨rfl,h2⟩;obtain⟨c20,c21,tH,c23,hb⟩:=ji h2;have HB2:=hide hb;clear h2 hb))
    all_goals try (go_ret;first|exact⟨aI rE,Q.out.below.trans (HB2.out.mono Q.out.below.size)⟩|exact⟨aI rE,Q.out.below.trans (HB.out.mono Q.out.below.size)⟩)
    have Q2:=hide (Q.out.same HY.out gu rfl HB2.out);go_roundg (len-i)
    case measure=>omega
    case rel=>exact⟨i+1,44,aG,aG,Nb,rfl,Q2⟩
   by_cases h45:yk=45
   ·subst h45
    obtain⟨q,hq⟩:∃q,QR [(.i,.P),(.no,.T),(.bk,.S)] yl=!q:=⟨!QR [(.i,.P),(.no,.T),(.bk,.S)] yl,qo⟩;have lq:=hide (show∀W,Below wr.heap.size wr W→Calls Tryz.prog 55 #[.agg #[.int .i64 45,.string ys,.int .i64 yn,.slice A' jd c'],.slice (some ⟨W.heap.size,0,none⟩) 3 3] (W.alloc (.cells #[.func (.func 62) #[] #[],.func (.func 61) #[] #[],.func (.func 63) #[] #[]] 39)) (aH W (!q))from fun W h=>by rw[←hq,←Jp.out];exact jP (jW.cons (f:=(62,(.i,.P))) enP ((tlP uu).mono (Nat.le_succ _)) (jW.cons (f:=(61,(.no,.T))) Ru (Rv uu) (jW.cons (f:=(63,(.bk,.S))) enB (tlB uu) jW.nil))) wN ⟨45,ys,yn,yl⟩ (fun z hz=>by have h1:=fJ (x:=(⟨45,ys,yn,yl⟩:Tr)) hz;have h2:=fJ (x:=(⟨42,s,0,l⟩:Tr)) (bZ (x:=(⟨42,s,0,l⟩:Tr)) HY.out);omega) Jo.out A' c' W (afg.out.below h));have lq:=hide (show Calls Tryz.prog 55 #[.agg #[.int .i64 45,.string ys,.int .i64 yn,.slice A' jd c'],.slice (some ⟨wr.heap.size+1,0,none⟩) 3 3] ((wr.alloc (.cells #[.int .i64 45,.string ys,.int .i64 yn,.slice A' jd c'] 24)).alloc (.cells #[.func (.func 62) #[] #[],.func (.func 61) #[] #[],.func (.func 63) #[] #[]] 39)) (aH (wr.alloc (.cells #[.int .i64 45,.string ys,.int .i64 yn,.slice A' jd c'] 24)) (!q))from I_);have HM:=hide (show sW (⟨45,ys,yn,yl⟩:Tr)=!q from by unfold sW;simp[hq]);have iy:=hide (show BL t (⟨45,ys,yn,yl⟩:Tr)=(!zt&&(!false&&(!yn3&&(!q&&(zp&&!zc)))))from by unfold BL;simp only;rw[HM.out,afh,iO,hcc,Ec];simp);clear hq hcc iO;go_wp2_with (first|(go_at_call 55;refine lq.out.mono ?_;rintro e w2 ⟨rfl,h2⟩;obtain⟨c20,c21,tH,c23,hb⟩:=ji h2;have HB2:=hide hb;clear h2 hb)|(go_at_call 66;refine(qK.out _ HB2.out).mono ?_;rintro e w3 ⟨rfl,h3⟩;have Rz:=ak h3 c20;have c31:=ak h3 c21;have c32:=ak h3 tH;have RA:=ak h3 c23;have HB3:=hide (HB2.out.trans (h3.mono HB2.out.size));clear h3)|((with_reducible refine cO (b:= .append) (xs:=#[.tmp 85,.tmp 87]) rfl ?_);at_builtin;refine Aside0.out ?_))
    all_goals try (go_ret;first|exact⟨aI rE,Q.out.below.trans (HB3.out.mono Q.out.below.size)⟩|exact⟨aI rE,Q.out.below.trans (HB2.out.mono Q.out.below.size)⟩|exact⟨aI rE,Q.out.below.trans (HB.out.mono Q.out.below.size)⟩)
    refine⟨?_⟩;refine dW ?_;intro zs hz1 hz2 hzl HD;refine Kd.gP KV (w0:=w) w.heap.size rfl (.tmp 85) (.tmp 87) 22 24 (.agg #[.int .i64 0,.string ⟨#[]⟩,.int .i64 0,.slice none 0 0]) 56 rfl Tryz.underlying22 rD rfl wN aG u4 zs (Ao (⟨45,ys,yn,yl⟩:Tr) A' c') [.int .i64 45,.string ys,.int .i64 yn,.slice A' jd c'] (fun k=>w.heap.size≤k) (fun _=>False) rfl rfl ⟨by rw[←Jp.out],rfl,eU⟩ (fun _ hk=>hk.elim) (fun k hk=>Nat.le_trans HD.out.size hk) (Kd.bS hz1 HB3.out) HD.out HD.out.size aG ?_;intro v5 w4 h1 h2 h3 h4;have Q2:=hide (Q.out.more HY.out gu rfl h2 hz2 h1 kC.out);clear h1 h2 h3 h4 hz1 hz2 hzl;go_wp2;go_roundg (len-i)
    case measure=>omega
    case rel=>exact⟨i+1,45,aG,aG,Nb,rfl,Q2⟩
   have n3:(yk==43)=false:=by simpa using h43
   have n4:(yk==44)=false:=by simpa using Jq
   have n5:(yk==45)=false:=by simpa using h45
   have iy:=hide (show BL t (⟨yk,ys,yn,yl⟩:Tr)=false from by unfold BL sW;simp[h43,Jq,h45]);clear h43 Jq h45 hcc iO;go_wp2
   all_goals
    go_ret;exact⟨aI (by rw[ade.out,iy.out];simp),Q.out.below.trans (HB.out.mono Q.out.below.size)⟩
  ·obtain rfl:i=len:=aG
   obtain⟨zs,hz1,hz2⟩:=Q.out.row;rw[List.take_of_length_le OO]at hz2;have hfl:(l.filter yM).length≤i:=by rw[←HL.out];exact List.length_filter_le _ _
   obtain⟨A9,c9,rfl,hc9,hC9⟩:=Eb hz1 hz2 (fun k hk=>Q.out.below.block k hk);have HUN:=hide (uf (l.filter yM) (fun y hy=>jF.out.kid ((List.mem_filter.1 hy).1)) aG A9 c9 wr hC9 (PE.out.tab.below Q.out.below));have HEQ:=hide (show kg 43 l=true from by rw[Q.out.eq,List.drop_eq_nil_of_le OO,kg]);clear hz1 hz2 hfl hC9;go_wp2_with (go_at_call 67;refine HUN.out.mono ?_;rintro e w2 ⟨rfl,h2⟩;have HB2:=hide (Q.out.below.trans (h2.mono Q.out.below.size));clear h2);go_ret;exact⟨aI (by rw[HEQ.out];simp),HB2.out⟩
def sZ (s:ByteArray):Bool:=(bytesOf s).any fun v=>decide (v=36)
mutual
def l9:Tr→Bool
 |⟨k,s,n,l⟩=>(!(k==2||(k==60||k==64))&&sZ s)||gM l
def gM:List Tr→Bool
 |[]=>false
 |x::l=>l9 x||gM l
end
theorem uz:∀l,gM l=l.any l9
 |[]=>by rw[gM];rfl
 |x::l=>by rw[gM,uz l];rfl
theorem afi {w:World}{A:Option Addr}{n:Nat}{xs:List Int}(h:fQ w .u8 A n xs):Kd.C (Kd.int .u8) w A n xs:=by
 refine⟨h.1,h.2.1,fun hn=>?_⟩;obtain⟨ad,e,hc⟩:=h.2.2 hn;refine⟨ad,e,fun j p hj=>⟨[.int .u8 p],rfl,rfl,fun i u hu=>?_⟩⟩
 cases i with
 |zero=>
  simp at hu;subst hu;have hlt:=(List.getElem?_eq_some_iff.1 hj).1;have:=hc j (by have:=h.1;omega);rw[show(Kd.int .u8).sz=1 from rfl,Nat.mul_one,Nat.add_zero,this];rw[List.getD_eq_getElem?_getD,hj];rfl
 |succ i=>simp at hu
theorem RD (l:List Int)(s:Int)(hl:l.length≤2199023255552):∀d i:Nat,l.length-i=d→i≤l.length→∃j,bA.l0 (d+1) l s (l.length:Int) (i:Int)=some j∧decide (j≥0)=(l.drop i).any fun v=>decide (v=s):=by
 intro d
 induction d with
 |zero=>
  intro i hi hle;refine⟨-1,?_,?_⟩
  ·simp only[bA.l0];rw[if_neg aG]
  ·exact JX
 |succ d ih=>
  intro i hi hle;obtain⟨t,ht⟩:=eO (l:=l) (i:=i) aG;have hrd:rd l (i:Int)=t:=by unfold rd;rw[Int.toNat_natCast,List.getD_eq_getElem?_getD,ht];rfl
  rw[drop_at ht];by_cases e:t=s
  ·refine⟨(i:Int),?_,?_⟩
   ·simp only[bA.l0]
    rw[if_pos aG,if_pos aG,if_pos aG,hrd,if_pos (by rw[e])]
   ·have:decide ((i:Int)≥0)=true:=decide_eq_true aG
    rw[this];simp[e]
  ·obtain⟨j,h1,h2⟩:=ih (i+1) aG aG
   refine⟨j,?_,?_⟩
   ·simp only[bA.l0]
    rw[if_pos aG,if_pos aG,if_pos aG,hrd,if_neg (fun q=>e q.symm),wrap_small aG aG];exact h1
   ·rw[h2];simp[e]
theorem UL (s:ByteArray)(hs:s.size≤1099511627776)(c:Nat)(hc:s.size≤c)(W:World):Calls Tryz.prog 60 #[.slice (some ⟨W.heap.size,0,none⟩) s.size c,.int .u8 36] (Lib.bytesWorld W 5 s) fun e w'=>e= .returned (.bool (sZ s))∧Below W.heap.size W w':=by
 have hl:=bytesOf_length s;obtain⟨j,h1,h2⟩:=RD (bytesOf s) 36 aG (bytesOf s).length 0 aG aG;have hC:=afi (Jz W 5 s aG);rw[←hl]at hC hc⊢;refine(fO.calls ((bytesOf s).length+1) _ c (bytesOf s) 36 (sZ s) _ hC hc ?_).mono ?_
 ·unfold fO.f bA.f
  rw[show((0:Nat):Int)=0 from rfl]at h1;rw[h1];simp only[Option.bind_some,h2,List.drop_zero,sZ]
 ·rintro e w' ⟨rfl,hd⟩
  exact⟨rfl,(JA (Below.refl _ _) (Nat.le_refl _) 5 s).trans (eD hd)⟩
theorem aiq (k:Int)(s:ByteArray)(n:Int)(A:Option Addr)(len c:Nat)(w:World)(d q z0 z1 z2:Bool)(hz0:(k==2)=z0)(hz1:(k==60)=z1)(hz2:(k==64)=z2)
  (hd:∀c W,s.size≤c→Calls Tryz.prog 60 #[.slice (some ⟨W.heap.size,0,none⟩) s.size c,.int .u8 36] (Lib.bytesWorld W 5 s) fun e w'=>e= .returned (.bool d)∧Below W.heap.size W w')
  (hq:∀W,Below w.heap.size w W→Calls Tryz.prog 28 #[.slice A len c,D9 30] W (aH W q)):
  Calls Tryz.prog 30 #[.agg #[.int .i64 k,.string s,.int .i64 n,.slice A len c]] w (aH w (!(!(z0||(z1||z2))&&d)&&q)):=by
 have kc:=fun(W:World)=>Lib.run_convert_string_bytes (P:=Tryz.prog) W 9 74 5 s Tryz.underlying9 Tryz.underlying74 Tryz.underlying5
 have hcap:s.size≤grownCap (w.alloc (.cells #[.int .i64 k,.string s,.int .i64 n,.slice A len c] 24)) s.size 0 5:=by
  exact Nat.le_add_right _ _
 have Hd:=hide (show Calls Tryz.prog 60 #[.slice (some ⟨w.heap.size+1,0,none⟩) s.size (grownCap (w.alloc (.cells #[.int .i64 k,.string s,.int .i64 n,.slice A len c] 24)) s.size 0 5),.int .u8 36] (Lib.bytesWorld (w.alloc (.cells #[.int .i64 k,.string s,.int .i64 n,.slice A len c] 24)) 5 s) (fun e w'=>e= .returned (.bool d)∧Below (w.alloc (.cells #[.int .i64 k,.string s,.int .i64 n,.slice A len c] 24)).heap.size (w.alloc (.cells #[.int .i64 k,.string s,.int .i64 n,.slice A len c] 24)) w')from by have h:=hd _ (w.alloc (.cells #[.int .i64 k,.string s,.int .i64 n,.slice A len c] 24)) hcap;rwa[World.size_alloc]at h⊢);have Hq:=hide hq;clear hd hq hcap;refine GD ?_;intro HB0
 cases z0<;>cases z1<;>cases z2
 case false.false.false=>
  go_enter Tryz.func30,Tryz.ntmps30;go_wp2_with (first|(go_at_call 60;refine Hd.out.mono ?_;rintro e w1 ⟨rfl,h1⟩;obtain⟨c10,c11,c12,c13,hb⟩:=ji h1;have HB1:=hide hb;clear h1 hb)|(go_at_call 28;refine(Hq.out _ HB1.out).mono ?_;rintro e w2 ⟨rfl,h2⟩;have HB2:=hide (HB1.out.trans (h2.mono HB1.out.size));clear h2))
  all_goals
   go_ret
   first|exact⟨aI MK,HB2.out⟩|exact⟨aI MK,HB1.out⟩
 all_goals
  clear kc Hd;go_enter Tryz.func30,Tryz.ntmps30;go_wp2_with (go_at_call 28;refine(Hq.out _ HB0.out).mono ?_;rintro e w2 ⟨rfl,h2⟩;have HB2:=hide (HB0.out.trans (h2.mono HB0.out.size));clear h2);go_ret;exact⟨aI qo,HB2.out⟩
theorem ano:Enters Tryz.prog 30:=en Tryz.func30 dL rfl
theorem RG (m:Nat):∀x:Tr,SizeOf.sizeOf x≤m→Fit x→∀A c W,Rd W x A c→Calls Tryz.prog 30 #[nd x A c] W (aH W (!l9 x)):=by
 induction m with
 |zero=>intro x hx;obtain⟨a,b,c,d⟩:=x;simp[jh.mk.sizeOf_spec]at hx
 |succ m ih=>
  intro x hx hf A c W hr;obtain⟨k,s,n,l⟩:=x;have hs:=jX hx;refine aK ?_ (aiq k s n A l.length c W (sZ s) (l.all fun y=>!l9 y) _ _ _ rfl rfl rfl (fun c W h=>UL s hf.str c h W) (fun W2 h=>BG 30 ano l (fun y=>!l9 y) hf.len A c W2 (hr.below h).kids (hr.below h).tab (fun y hy A2 c2 W3 hW3 hr3=>ih y (hs y hy) (hf.kid hy) A2 c2 W3 hr3)));rw[l9,uz,←List.not_any_eq_all_not];exact(Bool.not_or _ _).symm
end Go.Proofs.YtldgmneijipbjaaGreatDoor.H
