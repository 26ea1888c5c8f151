import Derived.Test.YtldgmneijipbjaaGreatDoorBQ7
import Derived.Test.YtldgmneijipbjaaGreatDoorBMac
set_option linter.unusedVariables false
set_option linter.unusedSimpArgs false
set_option maxRecDepth 100000
set_option maxHeartbeats 16000000
namespace Go.Proofs.YtldgmneijipbjaaGreatDoor.H
open Go.RowKit Go.Shelf Go.Maps Go.WideMaps Go.Proofs.YtldgmneijipbjaaGreatDoorW.PrintWords Go.Proofs.YtldgmneijipbjaaGreatDoorW.PrintLast Go.Proofs.YtldgmneijipbjaaGreatDoorW.PrintMore
open PScopeOwn
structure vT (n:Nat)(s t:RS):Prop where
 aN:t.aN.length≤s.aN.length+n
 ex:t.ex.length≤s.ex.length+n
 uses:t.uses=s.uses
 aT:t.aT=s.aT
 err:s.err≠0→t.err≠0
theorem vT.refl (s:RS):vT 0 s s:=⟨Nat.le_refl _,Nat.le_refl _,rfl,rfl,id⟩
theorem vT.mono {n k:Nat}{s t:RS}(h:vT n s t)(hn:n≤k):vT k s t:=⟨by have:=h.aN;omega,by have:=h.ex;omega,h.uses,h.aT,h.err⟩
theorem vT.trans {n k:Nat}{s t u:RS}(h:vT n s t)(h':vT k t u):vT (n+k) s u:=⟨by have:=h.aN;have:=h'.aN;omega,by have:=h.ex;have:=h'.ex;omega,h'.uses.trans h.uses,h'.aT.trans h.aT,fun e=>h'.err (h.err e)⟩
theorem Lp (s:RS)(p e:Int)(he:e≠0):vT 0 s (s.fail p e):=by
 unfold RS.fail
 split
 ·exact⟨Nat.le_refl _,Nat.le_refl _,rfl,rfl,fun _=>he⟩
 ·exact vT.refl s
theorem IJ (s:RS)(name:ByteArray)(kind p item:Int)(free:Bool):vT 1 s (s.FP name kind p item free):=by
 unfold RS.FP
 split
 ·exact(Lp s p 90 wN).mono aG
 ·exact⟨qo,qo,rfl,rfl,id⟩
theorem nE (s:RS)(name:ByteArray)(p:Int):vT 1 s (s.give name p):=by
 unfold RS.give
 split
 ·have h:=Lp s p 90 wN
  exact⟨by have:=h.aN;simp only;omega,qo,h.uses,h.aT,h.err⟩
 ·exact⟨qo,qo,rfl,rfl,id⟩
theorem IK (item:Int):∀(l:List Tr) (s:RS) (pos:Int),vT l.length s (yR s item pos l)
 |[],s,pos=>vT.refl _
 |x::l,s,pos=>by
  rw[yR,List.length_cons,Nat.add_comm];exact vT.trans (IJ _ _ _ _ _ _) (IK item l _ _)
theorem CS:∀(l:List Tr) (s:RS) (pos:Int),vT l.length s (nS s pos l)
 |[],s,pos=>vT.refl _
 |x::l,s,pos=>by
  rw[nS,List.length_cons,Nat.add_comm];refine vT.trans ?_ (CS l _ _)
  split
  ·split
   ·exact nE _ _ _
   ·split
    ·exact(vT.refl _).mono aG
    ·exact nE _ _ _
  ·exact(vT.refl _).mono aG
theorem CU (s:RS)(x:Tr)(pos item:Int):vT (flat x).length s (sH s x pos item):=by
 have:=iL x;unfold sH
 split
 ·exact(IJ _ _ _ _ _ _).mono aG
 split
 ·exact(IK _ _ _ _).mono aG
 split
 ·exact(CS _ _ _).mono aG
 ·exact(vT.refl _).mono aG
theorem YN (s:RS)(x:Tr)(pos item:Int):vT (flat x).length s (gB s x pos item):=by
 have h1:=iL x;have h2:=bC x;unfold gB
 split
 ·split
  ·rename_i t l e
   rw[e]at h2;simp only[aM,List.length_append]at h2;exact(vT.trans (nE _ _ _) (CU _ t _ _)).mono aG
  ·exact(vT.refl _).mono aG
 split
 ·split
  ·rename_i t l e
   rw[e]at h2;simp only[aM,List.length_append]at h2;have:=oM t
   split
   ·exact(vT.trans (nE _ _ _) (CU _ t _ _)).mono aG
   ·exact(vT.trans (nE _ _ _) (IJ _ _ _ _ _ _)).mono aG
  ·exact(vT.refl _).mono aG
 ·exact CU _ _ _ _
theorem CV:∀(l:List Tr) (s:RS) (pos i:Int),vT (aM l).length s (mE s pos i l)
 |[],s,pos,i=>by rw[mE];exact vT.refl _
 |x::l,s,pos,i=>by
  rw[mE,aM,List.length_append];exact vT.trans (YN _ _ _ _) (CV l _ _ _)
theorem CW (y:Tr):∀(l:List Tr) (s:RS) (pos i:Int),mE s pos i (l++[y])=gB (mE s pos i l) y (pos+(aM l).length) (i+l.length)
 |[],s,pos,i=>by simp[mE,aM]
 |x::l,s,pos,i=>by
  rw[List.cons_append,mE,CW y l,mE,aM,List.length_append,List.length_cons];have e1:pos+sz x+((aM l).length:Int)=pos+(((flat x).length+(aM l).length:Nat):Int):=Cx;have e2:i+1+(l.length:Int)=i+((l.length+1:Nat):Int):=aG;rw[e1,e2]
theorem EC (y:Tr)(item:Int):∀(l:List Tr) (s:RS) (pos:Int),yR s item pos (l++[y])=(yR s item pos l).FP (match y.f3 with|t::_=>t.f1|[]=>⟨#[]⟩) 61 (pos+(aM l).length) item false
 |[],s,pos=>by simp[yR,aM]<;>(cases y.f3<;>rfl)
 |x::l,s,pos=>by
  rw[List.cons_append,yR,EC y item l,yR,aM,List.length_append];have e:pos+sz x+((aM l).length:Int)=pos+(((flat x).length+(aM l).length:Nat):Int):=Cx;rw[e]
theorem sj (y:Tr):∀(l:List Tr) (s:RS) (pos:Int),nS s pos (l++[y])=(match y.f3 with
   |t::_=>if t.f0=6 then(nS s pos l).give t.f1 (pos+(aM l).length)else if y.f1.toList=[42]then nS s pos l else(nS s pos l).give y.f1 (pos+(aM l).length)
   |[]=>nS s pos l)
 |[],s,pos=>by simp[nS,aM]<;>(cases y.f3<;>rfl)
 |x::l,s,pos=>by
  rw[List.cons_append,nS,sj y l,nS,aM,List.length_append];have e:pos+sz x+((aM l).length:Int)=pos+(((flat x).length+(aM l).length:Nat):Int):=Cx;rw[e]
structure RB2 (n:Nat)(s:RS)(pos:Int):Prop where
 p0:0≤pos
 p1:pos+n≤1099511627776
 aN:s.aN.length+n≤1099511627776
 ex:s.ex.length+n≤1099511627776
def ru (w0:World)(D:Nat)(x:Tr):Prop:=∀(A:Option Addr) (c:Nat) (w:World) (m:RM) (s:RS) (pos item:Int),Below D w0 w→Ap w0 (fun k=>k<D) x A c→RF D w m s→RB2 (flat x).length s pos→
 Calls Tryz.prog 23 #[.pointer (some ⟨m.g,0,none⟩),nd x A c,.int .i64 pos,.int .i64 item] w fun e w'=>e= .returned (.tuple #[])∧Rk D m (gB s x pos item) w w'
theorem ajZ (w0:World)(D:Nat)(s:ByteArray)(n:Int)(l:List Tr)(hf:Fit ⟨40,s,n,l⟩)(hlc:Loc ⟨40,s,n,l⟩):ru w0 D ⟨40,s,n,l⟩:=by
 intro A c w m st pos item hb hr h hbd;refine Xc ?_;intro hss hpos hfe hp0 hp1 htp;have hgv:=hbd.ex;refine nP ?_;intro hno;have hwk:gB st ⟨40,s,n,l⟩ pos item=st.FP s 40 pos item (n==0):=V8;refine Xe ?_;intro len hlen W1 hW1 hb1 hx1 hf1 hl1 b0;refine FY ?_;intro b1 b2 b3 HR HB HB1 gF gK jD gN lX jF;refine ql ?_;intro HLEN;obtain⟨rs,hrs⟩:∃r,gB st ⟨40,s,n,l⟩ pos item=r:=⟨_,rfl⟩;refine X8 ?_;clear hrs;intro hrs jo;have HV:=hide (oW hf1 s 40 pos item (n==0) aG);exact Lr
theorem aj0 (w0:World)(D:Nat)(s:ByteArray)(n:Int)(l:List Tr)(hf:Fit ⟨41,s,n,l⟩)(hlc:Loc ⟨41,s,n,l⟩):ru w0 D ⟨41,s,n,l⟩:=by
 intro A c w m st pos item hb hr h hbd;refine Xb ?_;intro hss hpos hfe hp0 hp1 htp;have hgv:=hbd.ex;refine nP ?_;intro hno;have hwk:gB st ⟨41,s,n,l⟩ pos item=st.FP s 41 pos item false:=V8;refine OW ?_;intro len hlen;refine Zb ?_;intro W1 hW1;refine F9 ?_;intro hb1;refine WO ?_;intro hx1;refine OQ ?_;intro hf1 hl1;refine GZ ?_;intro b0;refine FY ?_;intro b1 b2 b3 HR HB HB1 gF gK jD gN lX jF;refine ql ?_;intro HLEN;obtain⟨rs,hrs⟩:∃r,gB st ⟨41,s,n,l⟩ pos item=r:=⟨_,rfl⟩;refine X8 ?_;clear hrs;intro hrs jo;have HV:=hide (oW hf1 s 41 pos item false aG);exact Lr
theorem aj1 (w0:World)(D:Nat)(s:ByteArray)(n:Int)(l:List Tr)(hf:Fit ⟨42,s,n,l⟩)(hlc:Loc ⟨42,s,n,l⟩):ru w0 D ⟨42,s,n,l⟩:=by
 intro A c w m st pos item hb hr h hbd;refine UK ?_;intro hss hpos hfe hp0 hp1 htp;have hgv:=hbd.ex;refine nP ?_;intro hno;have hwk:gB st ⟨42,s,n,l⟩ pos item=st.FP s 42 pos item false:=V8;refine OW ?_;intro len hlen;refine Vw ?_;intro W1 hW1;refine F9 ?_;intro hb1;refine Zq ?_;intro hx1;refine OQ ?_;intro hf1 hl1;refine WH ?_;intro b0;refine FY ?_;intro b1 b2 b3 HR HB HB1 gF gK jD gN lX jF;refine ql ?_;intro HLEN;obtain⟨rs,hrs⟩:∃r,gB st ⟨42,s,n,l⟩ pos item=r:=⟨_,rfl⟩;refine X8 ?_;clear hrs;intro hrs jo;have HV:=hide (oW hf1 s 42 pos item false aG);exact Lr
theorem aj2 (w0:World)(D:Nat)(s:ByteArray)(n:Int)(l:List Tr)(hf:Fit ⟨46,s,n,l⟩)(hlc:Loc ⟨46,s,n,l⟩):ru w0 D ⟨46,s,n,l⟩:=by
 intro A c w m st pos item hb hr h hbd;refine Xf ?_;intro hss hpos hfe hp0 hp1 htp;have hgv:=hbd.ex;refine nP ?_;intro hno;have hwk:gB st ⟨46,s,n,l⟩ pos item=st.FP s 46 pos item false:=V8;refine Xg ?_;intro len hlen W1 hW1 hb1 hx1 hf1 hl1 b0;refine FY ?_;intro b1 b2 b3 HR HB HB1 gF gK jD gN lX jF;refine ql ?_;intro HLEN;obtain⟨rs,hrs⟩:∃r,gB st ⟨46,s,n,l⟩ pos item=r:=⟨_,rfl⟩;refine X8 ?_;clear hrs;intro hrs jo;have HV:=hide (oW hf1 s 46 pos item false aG);exact Lr
theorem aj3 (w0:World)(D:Nat)(s:ByteArray)(n:Int)(l:List Tr)(hf:Fit ⟨66,s,n,l⟩)(hlc:Loc ⟨66,s,n,l⟩):ru w0 D ⟨66,s,n,l⟩:=by
 intro A c w m st pos item hb hr h hbd;refine eu ?_;intro hss hpos hfe hp0 hp1 htp;have hgv:=hbd.ex;refine nP ?_;intro hno;have hwk:gB st ⟨66,s,n,l⟩ pos item=st.FP s 66 pos item false:=V8;refine UO ?_;intro len hlen W1 hW1 hb1 hx1 hf1 hl1 b0;refine FY ?_;intro b1 b2 b3 HR HB HB1 gF gK jD gN lX jF;refine ql ?_;intro HLEN;obtain⟨rs,hrs⟩:∃r,gB st ⟨66,s,n,l⟩ pos item=r:=⟨_,rfl⟩;refine X8 ?_;clear hrs;intro hrs jo;have HV:=hide (oW hf1 s 66 pos item false aG);exact Lr
theorem ED (w0:World)(D:Nat)(t:Tr)(h:t.f0=40∨t.f0=41∨t.f0=42∨t.f0=46∨t.f0=66)(hf:Fit t)(hl:Loc t):ru w0 D t:=by
 obtain⟨k,s,n,l⟩:=t;simp only at h;rcases h with rfl|rfl|rfl|rfl|rfl
 ·exact ajZ w0 D s n l hf hl
 ·exact aj0 w0 D s n l hf hl
 ·exact aj1 w0 D s n l hf hl
 ·exact aj2 w0 D s n l hf hl
 ·exact aj3 w0 D s n l hf hl
theorem Ls {t:Tr}(h:t.f0=40∨t.f0=41∨t.f0=42∨t.f0=46∨t.f0=66)(s:RS)(pos item:Int):gB s t pos item=sH s t pos item:=by
 unfold gB;rw[if_neg aG,if_neg aG]
theorem aoV (w0:World)(D:Nat)(s:ByteArray)(n:Int)(l:List Tr)(hf:Fit ⟨62,s,n,l⟩)(hlc:Loc ⟨62,s,n,l⟩)(hlk:∀t,t∈l→Loc t):ru w0 D ⟨62,s,n,l⟩:=by
 intro A c w m st pos item hb hr h hbd;refine O9 ?_;intro hss hpos hfe hp0 hp1 htp;have hgv:=hbd.ex;refine Iw ?_;intro hno t hl htk yX hk0;obtain⟨ad,A1,c1,rfl,hr1,hcl⟩:=hr.kid hk0;have Mi:t∈(⟨62,s,n,l⟩:Tr).f3:=by simp only;rw[hl];simp
 have hft:=hf.kid Mi;have yY:(aM l).length=(flat t).length:=by rw[hl];simp[aM]
 have hwk:gB st ⟨62,s,n,l⟩ pos item=sH (st.give t.f1 pos) t (pos+1) item:=by simp[gB,hl]
 refine Pj ?_;intro len hlen W1 hW1 hb1 hx1 hf1 hl1 b0 b1 b2 b3 HR HB HB1 gF gK jD gN lX jF HLEN;obtain⟨rs,hrs⟩:∃r,gB st ⟨62,s,n,l⟩ pos item=r:=⟨_,rfl⟩;refine X8 ?_;clear hrs;intro hrs jo;obtain⟨k0,k1,k2,k3⟩:=hcl W1 (fun k hk=>hl1.block k hk);simp only[lN]at k0 k1 k2 k3;refine X_ ?_;intro hl0;have HG:=hide (qZ hf1 t.f1 pos aG);refine X3 ?_;intro oF HR1 HKL HFK;have R5:=hide yX
 have HB2:=hide (show RB2 (flat t).length (st.give t.f1 pos) (pos+1)from by
  have h1:=nE st t.f1 pos;have h2:=h1.aN;have h3:=h1.ex;exact⟨aG,aG,aG,aG⟩)
 obtain⟨an,han⟩:∃q,t.f3.length=q:=⟨_,rfl⟩;rw[han]at k3;have Xk:=hide han;clear hf hb hr h hbd hlc hb1 hx1 hf1 hl1 hno hlen hpos hlk htk yX hft hr1 han hk0 hcl Mi hl yY hfe hrs hwk;go_enter Tryz.func23,Tryz.ntmps23;go_wp2_with (go_at_call 49;refine Aside0.out ?_);refine⟨?_⟩;refine HG.out.mono ?_;rintro e w2 ⟨rfl,hd⟩;obtain⟨m2,h2,hu2⟩:=hd.fin;have hx2:=(hd.fr.block _ (ay gF.out) gN.out).trans gF.out;have Tx:w2.cell? ⟨w.heap.size,0,none⟩=some (.int .i64 62):=(aj hx2 0).trans rfl;refine IV ?_;intro Tz TA TB Hl j0 j1 j2 j3;have hcall:=ED w0 D t R5.out HFK.out HKL.out A1 c1 w2 m2 _ (pos+1) item Hl HR1.out h2 HB2.out;unfold nd at hcall;rw[Ls R5.out,Xk.out,hu2.g]at hcall;have HC:=hide hcall;have HD:=hide hd;have HU2:=hide hu2;refine X4 ?_;intro hw;clear hcall hd h2 hu2 hx2 Hl hW1 b0 b1 b2 b3 k0 k1 k2 k3;go_wp2_with (go_at_call 23;refine HC.out.mono ?_;rintro e w3 ⟨rfl,hq⟩;have HQ:=hide hq;clear hq);go_end0;rw[←jo.out];exact⟨rfl,Rk.shift HB1.out (Rk.trans HU2.out HD.out.fr HQ.out)⟩
theorem aj5 (w0:World)(D:Nat)(s:ByteArray)(n:Int)(l:List Tr)(hf:Fit ⟨63,s,n,l⟩)(hlc:Loc ⟨63,s,n,l⟩)(hlk:∀t,t∈l→Loc t)(t:Tr)(hl:l=[t])(htk:t.f0=41∨t.f0=42):ru w0 D ⟨63,s,n,l⟩:=by
 intro A c w m st pos item hb hr h hbd;refine zA ?_;intro hss hpos hfe hp0 hp1 htp;have hgv:=hbd.ex;refine nP ?_;intro hno;refine Io ?_;intro hk0;obtain⟨ad,A1,c1,rfl,hr1,hcl⟩:=hr.kid hk0;refine WQ ?_;intro Mi hft yY;have hwk:gB st ⟨63,s,n,l⟩ pos item=sH (st.give bB pos) t (pos+1) item:=by simp[gB,hl,htk]
 refine jc ?_;intro len hlen W1 hW1 hb1 hx1 hf1 hl1 b0 b1 b2 b3 HR HB HB1 gF gK jD gN lX jF HLEN;obtain⟨rs,hrs⟩:∃r,gB st ⟨63,s,n,l⟩ pos item=r:=⟨_,rfl⟩;refine X8 ?_;clear hrs;intro hrs jo;have yX:t.f0=40∨t.f0=41∨t.f0=42∨t.f0=46∨t.f0=66:=aG;have R5:=hide yX;clear yX;refine X_ ?_;intro hl0;have HG:=hide (qZ hf1 bB pos aG);refine X3 ?_;intro oF HR1 HKL HFK
 have HB2:=hide (show RB2 (flat t).length (st.give bB pos) (pos+1)from by
  have h1:=nE st bB pos;have h2:=h1.aN;have h3:=h1.ex;exact⟨aG,aG,aG,aG⟩)
 refine Oo ?_;intro an han Xk z41 lU z42 lV
 have hz:(z41||z42)=true:=by
  exact Qm
 clear hf hb hr h hbd hlc hb1 hx1 hf1 hl1 hno hlen hpos hlk htk hft hr1 han hk0 hcl Mi hl yY hfe hrs hwk
 cases z41<;>cases z42<;>first|(cases hz;done)|skip
 all_goals
  go_enter Tryz.func23,Tryz.ntmps23;go_wp2_with (go_at_call 49;refine Aside0.out ?_);refine⟨?_⟩;refine HG.out.mono ?_;rintro e w2 ⟨rfl,hd⟩;obtain⟨m2,h2,hu2⟩:=hd.fin;refine Wy ?_;intro hx2 Tx;refine IV ?_;intro Tz TA TB Hl j0 j1 j2 j3;have hal:∀o,Below w2.heap.size w2 (w2.alloc o):=fun o=>au (Below.refl _ _) o;have hcall:=fun o=>ED w0 D t R5.out HFK.out HKL.out A1 c1 (w2.alloc o) m2 _ (pos+1) item (h2.bR Hl (Fr.of_below (hal o))) HR1.out (h2.below (hal o)) HB2.out;unfold nd at hcall;simp only[Ls R5.out,Xk.out,hu2.g]at hcall;have HC:=hide hcall;have HD:=hide hd;have HU2:=hide hu2;have P9:=hide h2;refine X4 ?_;intro hw;clear hcall hd h2 hu2 hx2 Hl hal hW1 b0 b1 b2 b3;go_wp2_with (go_at_call 23;refine(HC.out _).mono ?_;rintro e w3 ⟨rfl,hq⟩;have HQ:=hide hq;clear hq);go_end0;rw[←jo.out];exact⟨rfl,Rk.shift HB1.out (Rk.trans HU2.out (HD.out.fr.more (au (Below.refl _ _) _)) HQ.out)⟩
theorem aj6 (w0:World)(D:Nat)(s:ByteArray)(n:Int)(l:List Tr)(hf:Fit ⟨63,s,n,l⟩)(hlc:Loc ⟨63,s,n,l⟩)(hlk:∀t,t∈l→Loc t)(t:Tr)(hl:l=[t])(htk:¬(t.f0=41∨t.f0=42)):ru w0 D ⟨63,s,n,l⟩:=by
 intro A c w m st pos item hb hr h hbd;refine zA ?_;intro hss hpos hfe hp0 hp1 htp;have hgv:=hbd.ex;refine nP ?_;intro hno;refine Io ?_;intro hk0;obtain⟨ad,A1,c1,rfl,hr1,hcl⟩:=hr.kid hk0;refine WQ ?_;intro Mi hft yY;have hwk:gB st ⟨63,s,n,l⟩ pos item=(st.give bB pos).FP bB 63 pos item false:=by simp[gB,hl,htk]
 refine jc ?_;intro len hlen W1 hW1 hb1 hx1 hf1 hl1 b0 b1 b2 b3 HR HB HB1 gF gK jD gN lX jF HLEN;obtain⟨rs,hrs⟩:∃r,gB st ⟨63,s,n,l⟩ pos item=r:=⟨_,rfl⟩;refine X8 ?_;clear hrs;intro hrs jo;refine X_ ?_;intro hl0;have HG:=hide (qZ hf1 bB pos aG);refine X3 ?_;intro oF HR1 HKL HFK
 have HB2:=hide (show RB2 (flat t).length (st.give bB pos) (pos+1)from by
  have h1:=nE st bB pos;have h2:=h1.aN;have h3:=h1.ex;exact⟨aG,aG,aG,aG⟩)
 refine Oo ?_;intro an han Xk z41 lU z42 lV
 have hz:(z41||z42)=false:=by
  exact Qm
 clear hf hb hr h hbd hlc hb1 hx1 hf1 hl1 hno hlen hpos hlk htk hft hr1 han hk0 hcl Mi hl yY hfe hrs hwk
 cases z41<;>cases z42<;>first|(cases hz;done)|skip
 all_goals
  go_enter Tryz.func23,Tryz.ntmps23;go_wp2_with (go_at_call 49;refine Aside0.out ?_);refine⟨?_⟩;refine HG.out.mono ?_;rintro e w2 ⟨rfl,hd⟩;obtain⟨m2,h2,hu2⟩:=hd.fin;refine Wy ?_;intro hx2 Tx;refine IV ?_;intro Tz TA TB Hl j0 j1 j2 j3;have hal:∀o,Below w2.heap.size w2 (w2.alloc o):=fun o=>au (Below.refl _ _) o;have hcall:=fun o=>oW (h2.below (hal o)) bB 63 pos item false (by have:=HB2.out.aN;omega);simp only[hu2.g]at hcall;have HC:=hide hcall;have HD:=hide hd;have HU2:=hide hu2;have P9:=hide h2;refine X4 ?_;intro hw;clear hcall hd h2 hu2 hx2 Hl hal hW1 b0 b1 b2 b3;go_wp2_with (go_at_call 48;refine(HC.out _).mono ?_;rintro e w3 ⟨rfl,hq⟩;have HQ:=hide hq;clear hq);go_end0;rw[←jo.out];exact⟨rfl,Rk.shift HB1.out (Rk.trans HU2.out (HD.out.fr.more (au (Below.refl _ _) _)) HQ.out)⟩
structure RMI (D:Nat)(m:RM)(st:RS)(s:ByteArray)(pos item:Int)(l:List Tr)(bx:Nat)(n:Int)(A:Option Addr)(len c:Nat)(w1:World)(i:Nat)(p:Int)(wr:World):Prop where
 q:Rk D m (yR st item (pos+1) (l.take i)) w1 wr
 box:wr.heap[bx]?=some (.cells #[.int .i64 60,.string s,.int .i64 n,.slice A len c] 24 (0,0))
 p:p=pos+1+(aM (l.take i)).length
theorem aoX (w0:World)(D:Nat)(s:ByteArray)(n:Int)(l:List Tr)(hf:Fit ⟨60,s,n,l⟩)(hlc:Loc ⟨60,s,n,l⟩):ru w0 D ⟨60,s,n,l⟩:=by
 intro A c w m st pos item hb hr h hbd;refine Xu ?_;intro hss hpos hfe hp0 hp1 htp;have hgv:=hbd.ex;refine nP ?_;intro hno;have hwk:gB st ⟨60,s,n,l⟩ pos item=yR st item (pos+1) l:=V8;refine OW ?_;intro len hlen;refine G5 ?_;intro W1 hW1;refine F9 ?_;intro hb1;refine G6 ?_;intro hx1;refine OQ ?_;intro hf1 hl1;refine G7 ?_;intro b0;refine FY ?_;intro b1 b2 b3 HR HB HB1 gF gK jD gN lX jF;refine ql ?_;intro HLEN;obtain⟨rs,hrs⟩:∃r,gB st ⟨60,s,n,l⟩ pos item=r:=⟨_,rfl⟩;refine X8 ?_;clear hrs;intro hrs jo;refine GN ?_;intro hlb hll;have HLL:=hide (And.intro hll hfe);have hw0:wrap64 (pos+1)=pos+1:=zy;have Q0:=hide (show RMI D m st s pos item l w.heap.size n A len c W1 0 (pos+1) W1 from⟨by rw[List.take_zero];exact Rk.of_below hf1 (Below.refl _ _),hx1,Oe⟩);clear hf hb hr h hbd hlc hb1 hx1 hf1 hl1 hno hlen hpos hll hfe hrs hwk;go_enter Tryz.func23,Tryz.ntmps23;go_wp2;clear hW1 b0 b1 b2 b3 hw0;go_loopg [10,9] (len+1) (fun gk v10 v9 wr=>∃(i:Nat) (p:Int),i≤len∧len-i<gk∧v10= .int .i64 i∧v9= .int .i64 p∧Aside0 (RMI D m st s pos item l w.heap.size n A len c W1 i p wr))
 case atStart=>exact⟨0,pos+1,Nat.zero_le _,aG,rfl,rfl,Q0⟩
 case round=>
  obtain⟨i,p,hi,lS,rfl,rfl,Q⟩:=hrel;clear Q0;refine Il ?_;intro b3;by_cases hlt:i<len
  ·refine GY ?_
   intro eY y hy;have hym:=List.mem_of_getElem? hy;obtain⟨-,t,Ju,-⟩:=lX.out.imp rfl y hym;obtain⟨ad,A',c',rfl,dR,hcells⟩:=HR.out.kid (x:=⟨60,s,n,l⟩) hy;refine GR ?_;intro hbw k0 k1 k2 k3;have hyk:y.f3[0]?=some t:=by rw[Ju];rfl
   have kC:=hide dR;obtain⟨eB,A2,c2,rfl,hrt,hcell2⟩:=dR.kid hyk;refine X7 ?_;clear k3;intro yn k3 hyn Xn;obtain⟨v1,hf1,hu1⟩:=Q.out.q.fin;have hDw:D≤wr.heap.size:=Nat.le_trans hf1.lg (Nat.le_of_lt (ay hf1.blk));obtain⟨j0,j1,-,-⟩:=hcell2 wr (fun k hk=>hbw.block k hk);simp only[lN]at j0 j1;refine aaf ?_;intro iH NK HCE HYN sV g_ Jo hfl hle htk;have htl:=take_len (x:=⟨60,s,n,l⟩) iH.out;simp only at htl;have hgr:=IK item (l.take i) st (pos+1);refine Hy ?_;clear hgr;intro hgr hg1 hg2 hpp hnb G8 jL rZ II Kl q hs hs0 hws Jp HS;have hcall:=oW hf1 t.f1 61 p item false aG;rw[hu1.g]at hcall;have HC:=hide hcall;clear hcall;clear hy dR hcells hbw hf1 hu1 hgr hg1 hg2 hfl hle hnb htk htl hrt hcell2 Ju hyk g_ hym hyn hpp hs hs0 hDw;go_wp2_with (go_at_call 48;refine Aside0.out ?_);refine⟨?_⟩;refine HC.out.mono ?_;rintro e w2 ⟨rfl,hq⟩;have hb3:=hq.bR II.out sV.out;have j5:=(hq.fr.block _ (ay Q.out.box) G8.out).trans Q.out.box;refine YO ?_;intro lW
   have QN:=hide (show∀w3,Below w2.heap.size w2 w3→RMI D m st s pos item l w.heap.size n (some ad) len c W1 (i+1) (p+q) w3 from fun w3 h3=>by
    refine⟨?_,(h3.block _ (ay j5)).trans j5,?_⟩
    ·rw[bJ iH.out,EC,NK.out]
     simp only;rw[←Kl.out];exact(Rk.trans rZ.out Q.out.q.fr hq).more h3
    ·rw[bJ iH.out,gU,HS.out,Kl.out];omega)
   obtain⟨i0,i1,i2,i3⟩:=HCE.out w2 (fun k hk=>hb3.block k hk);rw[HYN.out]at i3;have d3:w2.cell? ⟨w.heap.size,3,none⟩=some (.slice (some ad) len c):=(aj j5 3).trans rfl;clear hq hb3 j5 k0 k1 k2 k3 b3 j0 j1;exact YR
  ·exact Xo
structure RXI (D:Nat)(m:RM)(st:RS)(s:ByteArray)(pos item:Int)(l:List Tr)(bx:Nat)(n:Int)(A:Option Addr)(len c:Nat)(w1:World)(i:Nat)(p:Int)(wr:World):Prop where
 q:Rk D m (nS st (pos+1) (l.take i)) w1 wr
 box:wr.heap[bx]?=some (.cells #[.int .i64 64,.string s,.int .i64 n,.slice A len c] 24 (0,0))
 p:p=pos+1+(aM (l.take i)).length
theorem aoY (w0:World)(D:Nat)(s:ByteArray)(n:Int)(l:List Tr)(hf:Fit ⟨64,s,n,l⟩)(hlc:Loc ⟨64,s,n,l⟩):ru w0 D ⟨64,s,n,l⟩:=by
 intro A c w m st pos item hb hr h hbd;refine YQ ?_;intro hss hpos hfe hp0 hp1 htp;have hgv:=hbd.ex;refine nP ?_;intro hno;have hwk:gB st ⟨64,s,n,l⟩ pos item=nS st (pos+1) l:=V8;refine OW ?_;intro len hlen;refine Ya ?_;intro W1 hW1;refine F9 ?_;intro hb1;refine X6 ?_;intro hx1;refine OQ ?_;intro hf1 hl1;refine Yd ?_;intro b0;refine FY ?_;intro b1 b2 b3 HR HB HB1 gF gK jD gN lX jF;refine ql ?_;intro HLEN;obtain⟨rs,hrs⟩:∃r,gB st ⟨64,s,n,l⟩ pos item=r:=⟨_,rfl⟩;refine X8 ?_;clear hrs;intro hrs jo;refine GN ?_;intro hlb hll;have HLL:=hide (And.intro hll hfe);have hw0:wrap64 (pos+1)=pos+1:=zy;have Q0:=hide (show RXI D m st s pos item l w.heap.size n A len c W1 0 (pos+1) W1 from⟨by rw[List.take_zero];exact Rk.of_below hf1 (Below.refl _ _),hx1,Oe⟩);clear hf hb hr h hbd hlc hb1 hx1 hf1 hl1 hno hlen hpos hll hfe hrs hwk;go_enter Tryz.func23,Tryz.ntmps23;go_wp2;clear hW1 b0 b1 b2 b3 hw0;go_loopg [12,11] (len+1) (fun gk v12 v11 wr=>∃(i:Nat) (p:Int),i≤len∧len-i<gk∧v12= .int .i64 i∧v11= .int .i64 p∧Aside0 (RXI D m st s pos item l w.heap.size n A len c W1 i p wr))
 case atStart=>exact⟨0,pos+1,Nat.zero_le _,aG,rfl,rfl,Q0⟩
 case round=>
  obtain⟨i,p,hi,lS,rfl,rfl,Q⟩:=hrel;clear Q0;refine Il ?_;intro b3;by_cases hlt:i<len
  ·refine GY ?_
   intro eY y hy;have hym:=List.mem_of_getElem? hy;obtain⟨⟨t,Ju,-⟩,-⟩:=lX.out.kE rfl y hym;obtain⟨ad,A',c',rfl,dR,hcells⟩:=HR.out.kid (x:=⟨64,s,n,l⟩) hy;refine GR ?_;intro hbw k0 k1 k2 k3;have hyk:y.f3[0]?=some t:=by rw[Ju];rfl
   have kC:=hide dR;obtain⟨eB,A2,c2,rfl,hrt,hcell2⟩:=dR.kid hyk;refine X7 ?_;clear k3;intro yn k3 hyn Xn;obtain⟨v1,hf1,hu1⟩:=Q.out.q.fin;have hDw:D≤wr.heap.size:=Nat.le_trans hf1.lg (Nat.le_of_lt (ay hf1.blk))
   have j1:∀o,(wr.alloc o).cell? ⟨eB.block,eB.off+1,none⟩=some (.string t.f1):=fun o=>by
    have:=(hcell2 (wr.alloc o) (fun k hk=>(Below.heap_alloc _ _ _ aG).trans (hbw.block k hk))).2.1;simp only[lN]at this;exact this
   have j0:∀o,(wr.alloc o).cell? eB=some (.int .i64 t.f0):=fun o=>by
    have:=(hcell2 (wr.alloc o) (fun k hk=>(Below.heap_alloc _ _ _ aG).trans (hbw.block k hk))).1;simp only[lN]at this;exact this
   refine aaf ?_;intro iH NK HCE HYN sV g_ Jo hfl hle htk;have htl:=take_len (x:=⟨64,s,n,l⟩) iH.out;simp only at htl;have hgr:=CS (l.take i) st (pos+1);refine Hy ?_;clear hgr;intro hgr hg1 hg2 hpp hnb G8 jL rZ II Kl q hs hs0 hws Jp HS;obtain⟨z6,h6⟩:∃z,(t.f0==6)=z:=⟨_,rfl⟩;obtain⟨z42,lV⟩:∃z,(y.f1.toList==[42])=z:=⟨_,rfl⟩;have H6:=hide h6;have H42:=hide lV
   cases z6 with
   |true=>
    have hal:Below wr.heap.size wr (wr.alloc (.cells #[.int .i64 y.f0,.string y.f1,.int .i64 y.f2,.slice (some eB) yn c'] 24)):=au (Below.refl _ _) _;have hcall:=qZ (hf1.below hal) t.f1 p aG;rw[hu1.g]at hcall;have HC:=hide hcall;have IL:=hide hal;clear hcall hal;clear hy dR hcells hbw hf1 hu1 hgr hg1 hg2 hfl hle hnb htk htl hrt hcell2 Ju hyk g_ hym hyn hpp hs hs0 hDw;go_wp2_with (go_at_call 49;refine Aside0.out ?_);refine⟨?_⟩;refine HC.out.mono ?_;rintro e w2 ⟨rfl,hq⟩;refine U0 ?_;intro xX hb3 j5 lW
    have QN:=hide (show∀w3,Below w2.heap.size w2 w3→RXI D m st s pos item l w.heap.size n (some ad) len c W1 (i+1) (p+q) w3 from fun w3 h3=>by
     refine⟨?_,(h3.block _ (ay j5)).trans j5,?_⟩
     ·rw[bJ iH.out,sj,NK.out]
      simp only;rw[if_pos MQ,←Kl.out];exact(Rk.trans rZ.out (Q.out.q.fr.more IL.out) hq).more h3
     ·rw[bJ iH.out,gU,HS.out,Kl.out];omega)
    exact Ki
   |false=>
    cases z42 with
    |true=>
     obtain⟨w2,hw2⟩:∃w2,wr.alloc (.cells #[.int .i64 y.f0,.string y.f1,.int .i64 y.f2,.slice (some eB) yn c'] 24)=w2:=⟨_,rfl⟩;have hal:Below wr.heap.size wr w2:=hw2▸au (Below.refl _ _) _;have xX:w2.heap[wr.heap.size]?=some (.cells #[.int .i64 y.f0,.string y.f1,.int .i64 y.f2,.slice (some eB) yn c'] 24 (0,0)):=hw2▸aR wr _;have IL:=hide hal;have j1':w2.cell? ⟨eB.block,eB.off+1,none⟩=some (.string t.f1):=hw2▸j1 _;have j0':w2.cell? eB=some (.int .i64 t.f0):=hw2▸j0 _;clear hal;clear hy dR hcells hbw hf1 hu1 hgr hg1 hg2 hfl hle hnb htk htl hrt hcell2 Ju hyk g_ hym hyn hpp hs hs0 hDw;have hb3:=II.out.bR sV.out (Fr.of_below IL.out);have j5:=(IL.out.block _ (ay Q.out.box)).trans Q.out.box;refine YO ?_;intro lW
     have QN:=hide (show∀w3,Below w2.heap.size w2 w3→RXI D m st s pos item l w.heap.size n (some ad) len c W1 (i+1) (p+q) w3 from fun w3 h3=>by
      refine⟨?_,(h3.block _ (ay j5)).trans j5,?_⟩
      ·rw[bJ iH.out,sj,NK.out]
       simp only;rw[if_neg MQ,if_pos (by simpa using H42.out)];exact(Q.out.q.more IL.out).more h3
      ·rw[bJ iH.out,gU,HS.out,Kl.out];omega)
     have e0:w2.cell? ⟨wr.heap.size,0,none⟩=some (.int .i64 y.f0):=(aj xX 0).trans rfl;have e1:w2.cell? ⟨wr.heap.size,1,none⟩=some (.string y.f1):=(aj xX 1).trans rfl;have e2:w2.cell? ⟨wr.heap.size,2,none⟩=some (.int .i64 y.f2):=(aj xX 2).trans rfl;have e3:w2.cell? ⟨wr.heap.size,3,none⟩=some (.slice (some eB) yn c'):=(aj xX 3).trans rfl;clear hb3 j5 xX;exact YR
    |false=>
     have hal:Below wr.heap.size wr (wr.alloc (.cells #[.int .i64 y.f0,.string y.f1,.int .i64 y.f2,.slice (some eB) yn c'] 24)):=au (Below.refl _ _) _;have hcall:=qZ (hf1.below hal) y.f1 p aG;rw[hu1.g]at hcall;have HC:=hide hcall;have IL:=hide hal;clear hcall hal;clear hy dR hcells hbw hf1 hu1 hgr hg1 hg2 hfl hle hnb htk htl hrt hcell2 Ju hyk g_ hym hyn hpp hs hs0 hDw;go_wp2_with (go_at_call 49;refine Aside0.out ?_);refine⟨?_⟩;refine HC.out.mono ?_;rintro e w2 ⟨rfl,hq⟩;refine U0 ?_;intro xX hb3 j5 lW
     have QN:=hide (show∀w3,Below w2.heap.size w2 w3→RXI D m st s pos item l w.heap.size n (some ad) len c W1 (i+1) (p+q) w3 from fun w3 h3=>by
      refine⟨?_,(h3.block _ (ay j5)).trans j5,?_⟩
      ·rw[bJ iH.out,sj,NK.out]
       simp only;rw[if_neg MQ,if_neg (by simpa using H42.out),←Kl.out];exact(Rk.trans rZ.out (Q.out.q.fr.more IL.out) hq).more h3
      ·rw[bJ iH.out,gU,HS.out,Kl.out];omega)
     exact Ki
  ·exact Xo
theorem rtD (w0:World)(D:Nat)(k:Int)(Dq:k≠40)(lU:k≠41)(lV:k≠42)(h46:k≠46)(h66:k≠66)(Qn:k≠62)(h63:k≠63)(mh:k≠60)(h64:k≠64)(s:ByteArray)(n:Int)(l:List Tr)(hf:Fit ⟨k,s,n,l⟩)(hlc:Loc ⟨k,s,n,l⟩):ru w0 D ⟨k,s,n,l⟩:=by
 intro A c w m st pos item hb hr h hbd;refine fK ?_;intro hss hpos hfe hp0 hp1 htp;have hgv:=hbd.ex;refine nP ?_;intro hno;have hwk:gB st ⟨k,s,n,l⟩ pos item=st:=by unfold gB sH;simp only;rw[if_neg Qn,if_neg h63,if_neg aG,if_neg mh,if_neg h64]
 refine OW ?_;intro len hlen;refine Cv ?_;intro W1 hW1;refine F9 ?_;intro hb1;refine GL ?_;intro hx1;refine OQ ?_;intro hf1 hl1;refine Hw ?_;intro b0;refine FY ?_;intro b1 b2 b3 HR HB HB1 gF gK jD gN lX jF;refine ql ?_;intro HLEN;obtain⟨rs,hrs⟩:∃r,gB st ⟨k,s,n,l⟩ pos item=r:=⟨_,rfl⟩;refine X8 ?_;clear hrs;intro hrs jo;refine nJ ?_;intro q40 WS q42 q46 q66 q62 q63 q60 q64;clear hf hb hr h hbd hlc hb1 hx1 hf1 hl1 hno hlen hpos Dq lU lV h46 h66 Qn h63 mh h64 hfe hrs hwk;go_enter Tryz.func23,Tryz.ntmps23;exact ad9
theorem YT (w0:World)(D:Nat)(x:Tr)(hf:Fit x)(ha:bM x):ru w0 D x:=by
 have hl:=ha.loc;have hk:x.f0≠64→∀t,t∈x.f3→Loc t:=fun hn t ht=>(ha.kid hn ht).loc;obtain⟨k,s,n,l⟩:=x;simp only at hk;by_cases Dq:k=40;·subst Dq;exact ajZ w0 D s n l hf hl
 by_cases lU:k=41;·subst lU;exact aj0 w0 D s n l hf hl
 by_cases lV:k=42;·subst lV;exact aj1 w0 D s n l hf hl
 by_cases h46:k=46;·subst h46;exact aj2 w0 D s n l hf hl
 by_cases h66:k=66;·subst h66;exact aj3 w0 D s n l hf hl
 by_cases Qn:k=62;·subst Qn;exact aoV w0 D s n l hf hl (hk wN)
 by_cases h63:k=63
 ·subst h63
  obtain⟨t,ht⟩:=hl.dft rfl;simp only at ht;by_cases hq:t.f0=41∨t.f0=42
  ·exact aj5 w0 D s n l hf hl (hk wN) t ht hq
  ·exact aj6 w0 D s n l hf hl (hk wN) t ht hq
 by_cases mh:k=60;·subst mh;exact aoX w0 D s n l hf hl
 by_cases h64:k=64;·subst h64;exact aoY w0 D s n l hf hl
 exact rtD w0 D k Dq lU lV h46 h66 Qn h63 mh h64 s n l hf hl
end Go.Proofs.YtldgmneijipbjaaGreatDoor.H
