import Derived.Test.YtldgmneijipbjaaGreatDoorBUI
import Derived.Test.YtldgmneijipbjaaGreatDoorBMac
set_option linter.unusedVariables false
set_option linter.unusedSimpArgs false
set_option maxRecDepth 100000
set_option maxHeartbeats 16000000
namespace Go.Proofs.YtldgmneijipbjaaGreatDoor.H
open Go.RowKit Go.Shelf Go.Maps Go.WideMaps Go.Proofs.YtldgmneijipbjaaGreatDoorW.PrintWords Go.Proofs.YtldgmneijipbjaaGreatDoorW.PrintLast Go.Proofs.YtldgmneijipbjaaGreatDoorW.PrintMore
open PScopeOwn
structure Dc (D:Nat)(m:FM)(st:PS)(en:En)(w w':World):Prop where
 fin:∃v1,Fin D w' {m with vl:=v1} st en∧OwnAt w m.vl v1
 fr:Fr m.own w w'
section
variable {D:Nat} {w w1 w':World} {m:FM} {st st':PS} {en:En} {v1:Value}
theorem G_ (h:OwnAt w m.vl v1)(k:Nat)(hk:({m with vl:=v1}:FM).own k):m.own k∨w.heap.size≤k:=by
 rcases hk with hk|hk|hk|hk|hk|hk|hk
 ·exact .inl (.inl hk)
 ·exact .inl (.inr (.inl hk))
 ·exact .inl (.inr (.inr (.inl hk)))
 ·exact(h.own k hk).imp (fun q=> .inr (.inr (.inr (.inl q)))) id
 ·exact .inl (.inr (.inr (.inr (.inr (.inl hk)))))
 ·exact .inl (.inr (.inr (.inr (.inr (.inr (.inl hk))))))
 ·exact .inl (.inr (.inr (.inr (.inr (.inr (.inr hk))))))
theorem Dc.trans (hu:OwnAt w m.vl v1)(hf:Fr m.own w w1)(h:Dc D {m with vl:=v1} st en w1 w'):Dc D m st en w w':=by
 obtain⟨v2,h2,hu2⟩:=h.fin;exact⟨⟨v2,h2,hu.trans hu2 hf.size⟩,hf.trans h.fr (fun k hk=>G_ hu k hk)⟩
theorem Dc.NG (h:Tpd D m st en w w'):Dc D m st en w w':=⟨h.fin,h.fr.mono (fun k hk=>by rcases hk with q|q|q;exact .inl q;exact .inr (.inl q);exact .inr (.inr (.inr (.inl q))))⟩
theorem Dc.AA (h:Fin D w' m st en)(hf:Fr (fun k=>k=m.g∨k=m.mg) w w'):Dc D m st en w w':=⟨⟨m.vl,h,.inl rfl⟩,hf.mono (fun k hk=>hk.elim .inl (fun q=> .inr (.inr (.inl q))))⟩
theorem Dc.of_below (h:Fin D w m st en)(hb:Below w.heap.size w w'):Dc D m st en w w':=⟨⟨m.vl,h.below hb,.inl rfl⟩,Fr.of_below hb⟩
theorem Dc.shift (hb:Below w.heap.size w w1)(h:Dc D m st en w1 w'):Dc D m st en w w':=by
 obtain⟨v2,h2,hu2⟩:=h.fin;exact⟨⟨v2,h2,hu2.imp id (fun⟨b,q,hb2⟩=>⟨b,q,Nat.le_trans hb.size hb2⟩)⟩,(Fr.of_below hb).trans h.fr (fun k hk=> .inl hk)⟩
theorem Dc.more {w2:World}(h:Dc D m st en w w')(hb:Below w'.heap.size w' w2):Dc D m st en w w2:=by
 obtain⟨v2,h2,hu2⟩:=h.fin;exact⟨⟨v2,h2.below hb,hu2⟩,h.fr.more hb⟩
theorem Dc.bR {w0:World}(q:Dc D m st' en w w')(h:Fin D w m st en)(hb:Below D w0 w):Below D w0 w':=h.bR hb q.fr
end
structure G2 (n:Nat)(s t:PS):Prop where
 aN:t.aN.length≤s.aN.length+n
 given:t.given.length≤s.given.length+n
 uses:t.uses=s.uses
 err:s.err≠0→t.err≠0
theorem G2.refl (s:PS):G2 0 s s:=⟨Nat.le_refl _,Nat.le_refl _,rfl,id⟩
theorem G2.mono {n k:Nat}{s t:PS}(h:G2 n s t)(hn:n≤k):G2 k s t:=⟨by have:=h.aN;omega,by have:=h.given;omega,h.uses,h.err⟩
theorem G2.trans {n k:Nat}{s t u:PS}(h:G2 n s t)(h':G2 k t u):G2 (n+k) s u:=⟨by have:=h.aN;have:=h'.aN;omega,by have:=h.given;have:=h'.given;omega,h'.uses.trans h.uses,fun e=>h'.err (h.err e)⟩
theorem Ql (s:PS)(e p:Int)(he:e≠0):G2 0 s (s.fail e p):=by
 unfold PS.fail
 split
 ·exact⟨Nat.le_refl _,Nat.le_refl _,rfl,fun _=>he⟩
 ·exact G2.refl s
theorem NH (st:PS)(name:ByteArray)(kind pos item:Int)(free:Bool):G2 1 st (st.top name kind pos item free):=by
 unfold PS.top
 split
 ·exact(Ql st 90 pos wN).mono aG
 ·exact⟨qo,qo,rfl,id⟩
theorem pJ (st:PS)(name:ByteArray)(pos:Int):G2 1 st (st.give name pos):=by
 unfold PS.give
 split
 ·exact G2.trans (n:=1) (k:=0) (t:={st with given:=st.given++[name]}) ⟨qo,qo,rfl,id⟩ (Ql _ 90 pos wN)
 ·exact⟨qo,qo,rfl,id⟩
theorem NI (item:Int):∀(l:List Tr) (st:PS) (pos:Int),G2 l.length st (vH st item pos l)
 |[],st,pos=>G2.refl _
 |x::l,st,pos=>by
  rw[vH,List.length_cons,Nat.add_comm];exact G2.trans (NH _ _ _ _ _ _) (NI item l _ _)
theorem He:∀(l:List Tr) (st:PS) (pos:Int),G2 l.length st (lI st pos l)
 |[],st,pos=>G2.refl _
 |x::l,st,pos=>by
  rw[lI,List.length_cons,Nat.add_comm];refine G2.trans ?_ (He l _ _)
  split
  ·split
   ·exact pJ _ _ _
   ·split
    ·exact(G2.refl _).mono aG
    ·exact pJ _ _ _
  ·exact(G2.refl _).mono aG
theorem iL (x:Tr):x.f3.length+1≤(flat x).length:=by rw[bC];have:=jY x.f3;omega
theorem Hf (st:PS)(x:Tr)(pos item:Int):G2 (flat x).length st (rR st x pos item):=by
 have:=iL x;unfold rR
 split
 ·exact(NH _ _ _ _ _ _).mono aG
 split
 ·exact(NI _ _ _ _).mono aG
 split
 ·exact(He _ _ _).mono aG
 ·exact(G2.refl _).mono aG
theorem abB (st:PS)(x:Tr)(pos item:Int):G2 (flat x).length st (kD st x pos item):=by
 have h1:=iL x;have h2:=bC x;unfold kD
 split
 ·split
  ·rename_i t l e
   rw[e]at h2;simp only[aM,List.length_append]at h2;exact(G2.trans (pJ _ _ _) (Hf _ t _ _)).mono aG
  ·exact(G2.refl _).mono aG
 split
 ·split
  ·rename_i t l e
   rw[e]at h2;simp only[aM,List.length_append]at h2;have:=oM t
   split
   ·exact(G2.trans (pJ _ _ _) (Hf _ t _ _)).mono aG
   ·exact(G2.trans (pJ _ _ _) (NH _ _ _ _ _ _)).mono aG
  ·exact(G2.refl _).mono aG
 ·exact Hf _ _ _ _
theorem u7:∀(l:List Tr) (st:PS) (pos i:Int),G2 (aM l).length st (iE st pos i l)
 |[],st,pos,i=>by rw[iE];exact G2.refl _
 |x::l,st,pos,i=>by
  rw[iE,aM,List.length_append];exact G2.trans (abB _ _ _ _) (u7 l _ _ _)
theorem lM (y:Tr):∀(l:List Tr) (st:PS) (pos i:Int),iE st pos i (l++[y])=kD (iE st pos i l) y (pos+(aM l).length) (i+l.length)
 |[],st,pos,i=>by simp[iE,aM]
 |x::l,st,pos,i=>by
  rw[List.cons_append,iE,lM y l,iE,aM,List.length_append,List.length_cons];have e1:pos+sz x+((aM l).length:Int)=pos+(((flat x).length+(aM l).length:Nat):Int):=Cx;have e2:i+1+(l.length:Int)=i+((l.length+1:Nat):Int):=aG;rw[e1,e2]
theorem KL (y:Tr)(item:Int):∀(l:List Tr) (st:PS) (pos:Int),vH st item pos (l++[y])=(vH st item pos l).top (match y.f3 with|t::_=>t.f1|[]=>⟨#[]⟩) 61 (pos+2*l.length) item false
 |[],st,pos=>by simp[vH]<;>(cases y.f3<;>rfl)
 |x::l,st,pos=>by
  rw[List.cons_append,vH,KL y item l,vH,List.length_cons];have e:pos+2+2*(l.length:Int)=pos+2*((l.length+1:Nat):Int):=aG;rw[e]
theorem u_ (y:Tr):∀(l:List Tr) (st:PS) (pos:Int),lI st pos (l++[y])=(match y.f3 with
   |t::_=>if t.f0=6 then(lI st pos l).give t.f1 (pos+2*l.length)else if y.f1.toList=[42]then lI st pos l else(lI st pos l).give y.f1 (pos+2*l.length)
   |[]=>lI st pos l)
 |[],st,pos=>by simp[lI]<;>(cases y.f3<;>rfl)
 |x::l,st,pos=>by
  rw[List.cons_append,lI,u_ y l,lI,List.length_cons];have e:pos+2+2*(l.length:Int)=pos+2*((l.length+1:Nat):Int):=aG;rw[e]
structure B2 (n:Nat)(st:PS)(pos:Int):Prop where
 p0:0≤pos
 p1:pos+n≤1099511627776
 aN:st.aN.length+n≤1099511627776
 given:st.given.length+n≤1099511627776
def yU (w0:World)(D:Nat)(x:Tr):Prop:=∀(A:Option Addr) (c:Nat) (w:World) (m:FM) (st:PS) (en:En) (pos item:Int),Below D w0 w→Ap w0 (fun k=>k<D) x A c→Fin D w m st en→B2 (flat x).length st pos→
 Calls Tryz.prog 19 #[.pointer (some ⟨m.g,0,none⟩),nd x A c,.int .i64 pos,.int .i64 item] w fun e w'=>e= .returned (.tuple #[])∧Dc D m (kD st x pos item) en w w'
theorem adL (w0:World)(D:Nat)(s:ByteArray)(n:Int)(l:List Tr)(hf:Fit ⟨40,s,n,l⟩)(hlc:Loc ⟨40,s,n,l⟩):yU w0 D ⟨40,s,n,l⟩:=by
 intro A c w m st en pos item hb hr h hbd;refine Xc ?_;intro hss hpos hfe hp0 hp1 htp;have hgv:=hbd.given;refine nP ?_;intro hno;have hwk:kD st ⟨40,s,n,l⟩ pos item=st.top s 40 pos item (n==0):=Ve;rw[hwk];refine Xe ?_;intro len hlen W1 hW1 hb1 hx1 hf1 hl1 b0;refine FY ?_;intro b1 b2 b3 HR HB HB1 gF gK jD gN lX jF;refine ql ?_;intro HLEN;have HV:=hide (rV hf1 s 40 pos item (n==0) hss aG);exact KM
theorem adM (w0:World)(D:Nat)(s:ByteArray)(n:Int)(l:List Tr)(hf:Fit ⟨41,s,n,l⟩)(hlc:Loc ⟨41,s,n,l⟩):yU w0 D ⟨41,s,n,l⟩:=by
 intro A c w m st en pos item hb hr h hbd;refine Xb ?_;intro hss hpos hfe hp0 hp1 htp;have hgv:=hbd.given;refine nP ?_;intro hno;have hwk:kD st ⟨41,s,n,l⟩ pos item=st.top s 41 pos item false:=Ve;rw[hwk];refine OW ?_;intro len hlen;refine Zb ?_;intro W1 hW1;refine F9 ?_;intro hb1;refine WO ?_;intro hx1;refine OQ ?_;intro hf1 hl1;refine GZ ?_;intro b0;refine FY ?_;intro b1 b2 b3 HR HB HB1 gF gK jD gN lX jF;refine ql ?_;intro HLEN;have HV:=hide (rV hf1 s 41 pos item false hss aG);exact KM
theorem adN (w0:World)(D:Nat)(s:ByteArray)(n:Int)(l:List Tr)(hf:Fit ⟨42,s,n,l⟩)(hlc:Loc ⟨42,s,n,l⟩):yU w0 D ⟨42,s,n,l⟩:=by
 intro A c w m st en pos item hb hr h hbd;refine UK ?_;intro hss hpos hfe hp0 hp1 htp;have hgv:=hbd.given;refine nP ?_;intro hno;have hwk:kD st ⟨42,s,n,l⟩ pos item=st.top s 42 pos item false:=Ve;rw[hwk];refine OW ?_;intro len hlen;refine Vw ?_;intro W1 hW1;refine F9 ?_;intro hb1;refine Zq ?_;intro hx1;refine OQ ?_;intro hf1 hl1;refine WH ?_;intro b0;refine FY ?_;intro b1 b2 b3 HR HB HB1 gF gK jD gN lX jF;refine ql ?_;intro HLEN;have HV:=hide (rV hf1 s 42 pos item false hss aG);exact KM
theorem adO (w0:World)(D:Nat)(s:ByteArray)(n:Int)(l:List Tr)(hf:Fit ⟨46,s,n,l⟩)(hlc:Loc ⟨46,s,n,l⟩):yU w0 D ⟨46,s,n,l⟩:=by
 intro A c w m st en pos item hb hr h hbd;refine Xf ?_;intro hss hpos hfe hp0 hp1 htp;have hgv:=hbd.given;refine nP ?_;intro hno;have hwk:kD st ⟨46,s,n,l⟩ pos item=st.top s 46 pos item false:=Ve;rw[hwk];refine Xg ?_;intro len hlen W1 hW1 hb1 hx1 hf1 hl1 b0;refine FY ?_;intro b1 b2 b3 HR HB HB1 gF gK jD gN lX jF;refine ql ?_;intro HLEN;have HV:=hide (rV hf1 s 46 pos item false hss aG);exact KM
theorem adP (w0:World)(D:Nat)(s:ByteArray)(n:Int)(l:List Tr)(hf:Fit ⟨66,s,n,l⟩)(hlc:Loc ⟨66,s,n,l⟩):yU w0 D ⟨66,s,n,l⟩:=by
 intro A c w m st en pos item hb hr h hbd;refine eu ?_;intro hss hpos hfe hp0 hp1 htp;have hgv:=hbd.given;refine nP ?_;intro hno;have hwk:kD st ⟨66,s,n,l⟩ pos item=st.top s 66 pos item false:=Ve;rw[hwk];refine UO ?_;intro len hlen W1 hW1 hb1 hx1 hf1 hl1 b0;refine FY ?_;intro b1 b2 b3 HR HB HB1 gF gK jD gN lX jF;refine ql ?_;intro HLEN;have HV:=hide (rV hf1 s 66 pos item false hss aG);exact KM
theorem NJ (w0:World)(D:Nat)(t:Tr)(h:t.f0=40∨t.f0=41∨t.f0=42∨t.f0=46∨t.f0=66)(hf:Fit t)(hl:Loc t):yU w0 D t:=by
 obtain⟨k,s,n,l⟩:=t;simp only at h;rcases h with rfl|rfl|rfl|rfl|rfl
 ·exact adL w0 D s n l hf hl
 ·exact adM w0 D s n l hf hl
 ·exact adN w0 D s n l hf hl
 ·exact adO w0 D s n l hf hl
 ·exact adP w0 D s n l hf hl
theorem abC {t:Tr}(h:t.f0=40∨t.f0=41∨t.f0=42∨t.f0=46∨t.f0=66)(st:PS)(pos item:Int):kD st t pos item=rR st t pos item:=by
 unfold kD;rw[if_neg aG,if_neg aG]
theorem yV:bB.size≤1099511627776:=wN
theorem lN (ad:Addr):ad.add (0*4)=ad:=by simp[Addr.add]
theorem ajr (w0:World)(D:Nat)(s:ByteArray)(n:Int)(l:List Tr)(hf:Fit ⟨62,s,n,l⟩)(hlc:Loc ⟨62,s,n,l⟩)(hlk:∀t,t∈l→Loc t):yU w0 D ⟨62,s,n,l⟩:=by
 intro A c w m st en pos item hb hr h hbd;refine O9 ?_;intro hss hpos hfe hp0 hp1 htp;have hgv:=hbd.given;refine Iw ?_;intro hno t hl htk yX hk0;obtain⟨ad,A1,c1,rfl,hr1,hcl⟩:=hr.kid hk0;have Mi:t∈(⟨62,s,n,l⟩:Tr).f3:=by simp only;rw[hl];simp
 have hft:=hf.kid Mi;have yY:(aM l).length=(flat t).length:=by rw[hl];simp[aM]
 have hwk:kD st ⟨62,s,n,l⟩ pos item=rR (st.give t.f1 pos) t (pos+1) item:=by simp[kD,hl]
 rw[hwk];refine Pj ?_;intro len hlen W1 hW1 hb1 hx1 hf1 hl1 b0 b1 b2 b3 HR HB HB1 gF gK jD gN lX jF HLEN;obtain⟨k0,k1,k2,k3⟩:=hcl W1 (fun k hk=>hl1.block k hk);simp only[lN]at k0 k1 k2 k3;refine X_ ?_;intro hl0;have HG:=hide (uI hf1 t.f1 pos hft.str aG);refine X3 ?_;intro oF HR1 HKL HFK;have R5:=hide yX
 have HB2:=hide (show B2 (flat t).length (st.give t.f1 pos) (pos+1)from by
  have h1:=pJ st t.f1 pos;have h2:=h1.aN;have h3:=h1.given;exact⟨aG,aG,aG,aG⟩)
 obtain⟨an,han⟩:∃q,t.f3.length=q:=⟨_,rfl⟩;rw[han]at k3;have Xk:=hide han;clear hf hb hr h hbd hlc hb1 hx1 hf1 hl1 hno hlen hpos hlk htk yX hft hr1 han hk0 hcl Mi hl yY hfe;go_enter Tryz.func19,Tryz.ntmps19;go_wp2_with (go_at_call 38;refine Aside0.out ?_);refine⟨?_⟩;refine HG.out.mono ?_;rintro e w2 ⟨rfl,h2,h3⟩;have hd:=Dc.AA h2 h3;have hx2:=(hd.fr.block _ (ay gF.out) gN.out).trans gF.out;have Tx:w2.cell? ⟨w.heap.size,0,none⟩=some (.int .i64 62):=(aj hx2 0).trans rfl;refine IV ?_;intro Tz TA TB Hl j0 j1 j2 j3;refine ZI ?_;intro hcall HC HD;refine X4 ?_;intro hw;clear hcall hd h2 h3 hx2 Hl hW1 b0 b1 b2 b3 k0 k1 k2 k3;go_wp2_with (go_at_call 19;refine HC.out.mono ?_;rintro e w3 ⟨rfl,hq⟩;have HQ:=hide hq;clear hq);go_end0;obtain⟨v1,h5,h6⟩:=HD.out.fin;exact⟨rfl,Dc.shift HB1.out (Dc.trans (v1:=m.vl) (.inl rfl) HD.out.fr HQ.out)⟩
theorem agi (w0:World)(D:Nat)(s:ByteArray)(n:Int)(l:List Tr)(hf:Fit ⟨63,s,n,l⟩)(hlc:Loc ⟨63,s,n,l⟩)(hlk:∀t,t∈l→Loc t)(t:Tr)(hl:l=[t])(htk:t.f0=41∨t.f0=42):yU w0 D ⟨63,s,n,l⟩:=by
 intro A c w m st en pos item hb hr h hbd;refine zA ?_;intro hss hpos hfe hp0 hp1 htp;have hgv:=hbd.given;refine nP ?_;intro hno;refine Io ?_;intro hk0;obtain⟨ad,A1,c1,rfl,hr1,hcl⟩:=hr.kid hk0;refine WQ ?_;intro Mi hft yY;have hwk:kD st ⟨63,s,n,l⟩ pos item=rR (st.give bB pos) t (pos+1) item:=by simp[kD,hl,htk]
 rw[hwk];refine jc ?_;intro len hlen W1 hW1 hb1 hx1 hf1 hl1 b0 b1 b2 b3 HR HB HB1 gF gK jD gN lX jF HLEN;have yX:t.f0=40∨t.f0=41∨t.f0=42∨t.f0=46∨t.f0=66:=aG;have R5:=hide yX;clear yX;refine X_ ?_;intro hl0;have HG:=hide (uI hf1 bB pos yV aG);refine X3 ?_;intro oF HR1 HKL HFK
 have HB2:=hide (show B2 (flat t).length (st.give bB pos) (pos+1)from by
  have h1:=pJ st bB pos;have h2:=h1.aN;have h3:=h1.given;exact⟨aG,aG,aG,aG⟩)
 refine Oo ?_;intro an han Xk z41 lU z42 lV
 have hz:(z41||z42)=true:=by
  exact Qm
 clear hf hb hr h hbd hlc hb1 hx1 hf1 hl1 hno hlen hpos hlk htk hft hr1 han hk0 hcl Mi hl yY hfe
 cases z41<;>cases z42<;>first|(cases hz;done)|skip
 all_goals
  go_enter Tryz.func19,Tryz.ntmps19;go_wp2_with (go_at_call 38;refine Aside0.out ?_);refine⟨?_⟩;refine HG.out.mono ?_;rintro e w2 ⟨rfl,h2,h3⟩;have hd:=Dc.AA h2 h3;refine Wy ?_;intro hx2 Tx;refine IV ?_;intro Tz TA TB Hl j0 j1 j2 j3;refine ZI ?_;intro hcall HC HD;refine X4 ?_;intro hw;clear hcall hd h2 h3 hx2 Hl hW1 b0 b1 b2 b3;go_wp2_with (go_at_call 19;refine HC.out.mono ?_;rintro e w3 ⟨rfl,hq⟩;have HQ:=hide hq;clear hq);go_end0;exact⟨rfl,Dc.shift HB1.out (Dc.trans (v1:=m.vl) (.inl rfl) HD.out.fr HQ.out)⟩
theorem agj (w0:World)(D:Nat)(s:ByteArray)(n:Int)(l:List Tr)(hf:Fit ⟨63,s,n,l⟩)(hlc:Loc ⟨63,s,n,l⟩)(hlk:∀t,t∈l→Loc t)(t:Tr)(hl:l=[t])(htk:¬(t.f0=41∨t.f0=42)):yU w0 D ⟨63,s,n,l⟩:=by
 intro A c w m st en pos item hb hr h hbd;refine zA ?_;intro hss hpos hfe hp0 hp1 htp;have hgv:=hbd.given;refine nP ?_;intro hno;refine Io ?_;intro hk0;obtain⟨ad,A1,c1,rfl,hr1,hcl⟩:=hr.kid hk0;refine WQ ?_;intro Mi hft yY;have hwk:kD st ⟨63,s,n,l⟩ pos item=(st.give bB pos).top bB 63 pos item false:=by simp[kD,hl,htk]
 rw[hwk];refine jc ?_;intro len hlen W1 hW1 hb1 hx1 hf1 hl1 b0 b1 b2 b3 HR HB HB1 gF gK jD gN lX jF HLEN;refine X_ ?_;intro hl0;have HG:=hide (uI hf1 bB pos yV aG);refine X3 ?_;intro oF HR1 HKL HFK
 have HB2:=hide (show B2 (flat t).length (st.give bB pos) (pos+1)from by
  have h1:=pJ st bB pos;have h2:=h1.aN;have h3:=h1.given;exact⟨aG,aG,aG,aG⟩)
 refine Oo ?_;intro an han Xk z41 lU z42 lV
 have hz:(z41||z42)=false:=by
  exact Qm
 clear hf hb hr h hbd hlc hb1 hx1 hf1 hl1 hno hlen hpos hlk htk hft hr1 han hk0 hcl Mi hl yY hfe
 cases z41<;>cases z42<;>first|(cases hz;done)|skip
 all_goals
  go_enter Tryz.func19,Tryz.ntmps19;go_wp2_with (go_at_call 38;refine Aside0.out ?_);refine⟨?_⟩;refine HG.out.mono ?_;rintro e w2 ⟨rfl,h2,h3⟩;have hd:=Dc.AA h2 h3;refine Wy ?_;intro hx2 Tx;refine IV ?_;intro Tz TA TB Hl j0 j1 j2 j3;have hcall:=rV h2 bB 63 pos item false yV (by have:=HB2.out.aN;omega);have HC:=hide hcall;have HD:=hide hd;refine X4 ?_;intro hw;clear hcall hd h2 h3 hx2 Hl hW1 b0 b1 b2 b3;go_wp2_with (go_at_call 37;refine HC.out.mono ?_;rintro e w3 ⟨rfl,hq⟩;have HQ:=hide hq;clear hq);go_end0;exact⟨rfl,Dc.shift HB1.out (Dc.trans (v1:=m.vl) (.inl rfl) HD.out.fr (Dc.NG HQ.out))⟩
structure MI0 (D:Nat)(m:FM)(st:PS)(en:En)(s:ByteArray)(pos item:Int)(l:List Tr)(bx:Nat)(n:Int)(A:Option Addr)(len c:Nat)(w1:World)(i:Nat)(wr:World):Prop where
 q:Dc D m (vH st item (pos+1) (l.take i)) en w1 wr
 box:wr.heap[bx]?=some (.cells #[.int .i64 60,.string s,.int .i64 n,.slice A len c] 24 (0,0))
theorem ajs (w0:World)(D:Nat)(s:ByteArray)(n:Int)(l:List Tr)(hf:Fit ⟨60,s,n,l⟩)(hlc:Loc ⟨60,s,n,l⟩):yU w0 D ⟨60,s,n,l⟩:=by
 intro A c w m st en pos item hb hr h hbd;refine Xu ?_;intro hss hpos hfe hp0 hp1 htp;have hgv:=hbd.given;refine nP ?_;intro hno;have hwk:kD st ⟨60,s,n,l⟩ pos item=vH st item (pos+1) l:=by simp[kD,rR]
 rw[hwk];refine OW ?_;intro len hlen;refine G5 ?_;intro W1 hW1;refine F9 ?_;intro hb1;refine G6 ?_;intro hx1;refine OQ ?_;intro hf1 hl1;refine G7 ?_;intro b0;refine FY ?_;intro b1 b2 b3 HR HB HB1 gF gK jD gN lX jF;refine ql ?_;intro HLEN;refine GN ?_;intro hlb hll;have HLL:=hide (And.intro hll hfe);have Q0:=hide (show MI0 D m st en s pos item l w.heap.size n A len c W1 0 W1 from⟨by rw[List.take_zero];exact Dc.of_below hf1 (Below.refl _ _),hx1⟩);clear hf hb hr h hbd hlc hb1 hx1 hf1 hl1 hno hlen hpos hll hfe;go_enter Tryz.func19,Tryz.ntmps19;go_wp2;clear hW1 b0 b1 b2 b3;go_loopg [96] (len+1) (fun gk v0 wr=>∃i:Nat,i≤len∧len-i<gk∧v0= .int .i64 i∧Aside0 (MI0 D m st en s pos item l w.heap.size n A len c W1 i wr))
 case atStart=>exact⟨0,Nat.zero_le _,aG,rfl,Q0⟩
 case round=>
  obtain⟨i,hi,lS,rfl,Q⟩:=hrel;clear Q0;by_cases hlt:i<len
  ·refine GY ?_
   intro eY y hy;have hym:=List.mem_of_getElem? hy;obtain⟨aup,t,Ju,htn⟩:=lX.out.imp rfl y hym;obtain⟨ad,A',c',rfl,dR,hcells⟩:=HR.out.kid (x:=⟨60,s,n,l⟩) hy;refine GR ?_;intro hbw k0 k1 k2 k3;have hyk:y.f3[0]?=some t:=by rw[Ju];rfl
   obtain⟨eB,A2,c2,rfl,hrt,hcell2⟩:=dR.kid hyk;have sD:=hide hcell2;refine X7 ?_;clear k3;intro yn k3 hyn Xn
   have j1:∀o,(wr.alloc o).cell? ⟨eB.block,eB.off+1,none⟩=some (.string t.f1):=fun o=>by
    exact Ye
   have j0:∀o,(wr.alloc o).cell? eB=some (.int .i64 t.f0):=fun o=>by
    exact Us
   refine Im ?_;intro iH NK g_ hsy abD hfl hle hw1 hw2 hw3 v1 hf1 hu1 htk;have hgr:=NI item (l.take i) st (pos+1);refine Xv ?_;clear hgr;intro hgr hg1 hg2 hnb G8 rZ;have HT:=hide (fun o=>rV (hf1.below (au (Below.refl wr.heap.size wr) o)) t.f1 61 (pos+1+2*(i:Int)) item false hsy aG)
   have QN:=hide (show∀o w2,Dc D {m with vl:=v1} ((vH st item (pos+1) (l.take i)).top t.f1 61 (pos+1+2*(i:Int)) item false) en (wr.alloc o) w2→MI0 D m st en s pos item l w.heap.size n (some ad) len c W1 (i+1) w2 from fun o w2 hq=>by
    refine⟨?_,(hq.fr.block _ FB G8.out).trans ((Below.heap_alloc _ _ _ (ay Q.out.box)).trans Q.out.box)⟩;rw[bJ iH.out,KL,NK.out];simp only;rw[htk];exact Dc.trans rZ.out (Q.out.q.fr.more (au (Below.refl _ _) o)) hq)
   clear hy dR hcells hbw hf1 hu1 hgr hg1 hg2 hfl hle hnb htk hyk hrt hcell2 Ju g_ hym hyn;go_wp2_with (go_at_call 37;refine(HT.out _).mono ?_;rintro e w2 ⟨rfl,hq⟩;have Q2:=hide (QN.out _ w2 (Dc.NG hq));clear hq);exact aeG
  ·exact Wx
structure XI0 (D:Nat)(m:FM)(st:PS)(en:En)(s:ByteArray)(pos item:Int)(l:List Tr)(bx:Nat)(n:Int)(A:Option Addr)(len c:Nat)(w1:World)(i:Nat)(wr:World):Prop where
 q:Dc D m (lI st (pos+1) (l.take i)) en w1 wr
 box:wr.heap[bx]?=some (.cells #[.int .i64 64,.string s,.int .i64 n,.slice A len c] 24 (0,0))
theorem aju (w0:World)(D:Nat)(s:ByteArray)(n:Int)(l:List Tr)(hf:Fit ⟨64,s,n,l⟩)(hlc:Loc ⟨64,s,n,l⟩):yU w0 D ⟨64,s,n,l⟩:=by
 intro A c w m st en pos item hb hr h hbd;refine YQ ?_;intro hss hpos hfe hp0 hp1 htp;have hgv:=hbd.given;refine nP ?_;intro hno;have hwk:kD st ⟨64,s,n,l⟩ pos item=lI st (pos+1) l:=by simp[kD,rR]
 rw[hwk];refine OW ?_;intro len hlen;refine Ya ?_;intro W1 hW1;refine F9 ?_;intro hb1;refine X6 ?_;intro hx1;refine OQ ?_;intro hf1 hl1;refine Yd ?_;intro b0;refine FY ?_;intro b1 b2 b3 HR HB HB1 gF gK jD gN lX jF;refine ql ?_;intro HLEN;refine GN ?_;intro hlb hll;have HLL:=hide (And.intro hll hfe);have Q0:=hide (show XI0 D m st en s pos item l w.heap.size n A len c W1 0 W1 from⟨by rw[List.take_zero];exact Dc.of_below hf1 (Below.refl _ _),hx1⟩);clear hf hb hr h hbd hlc hb1 hx1 hf1 hl1 hno hlen hpos hll hfe;go_enter Tryz.func19,Tryz.ntmps19;go_wp2;clear hW1 b0 b1 b2 b3;go_loopg [120] (len+1) (fun gk v0 wr=>∃i:Nat,i≤len∧len-i<gk∧v0= .int .i64 i∧Aside0 (XI0 D m st en s pos item l w.heap.size n A len c W1 i wr))
 case atStart=>exact⟨0,Nat.zero_le _,aG,rfl,Q0⟩
 case round=>
  obtain⟨i,hi,lS,rfl,Q⟩:=hrel;clear Q0;by_cases hlt:i<len
  ·refine GY ?_
   intro eY y hy;have hym:=List.mem_of_getElem? hy;obtain⟨⟨t,Ju,htn⟩,-⟩:=lX.out.kE rfl y hym;obtain⟨ad,A',c',rfl,dR,hcells⟩:=HR.out.kid (x:=⟨64,s,n,l⟩) hy;refine GR ?_;intro hbw k0 k1 k2 k3;have hyk:y.f3[0]?=some t:=by rw[Ju];rfl
   obtain⟨eB,A2,c2,rfl,hrt,hcell2⟩:=dR.kid hyk;have sD:=hide hcell2;refine X7 ?_;clear k3;intro yn k3 hyn Xn
   have j1:∀o,(wr.alloc o).cell? ⟨eB.block,eB.off+1,none⟩=some (.string t.f1):=fun o=>by
    exact Ye
   have j0:∀o,(wr.alloc o).cell? eB=some (.int .i64 t.f0):=fun o=>by
    exact Us
   refine Im ?_;intro iH NK g_ hsy abD hfl hle hw1 hw2 hw3 v1 hf1 hu1 htk;have hgr:=He (l.take i) st (pos+1);refine Xv ?_;clear hgr;intro hgr hg1 hg2 hnb G8 rZ;obtain⟨z6,h6⟩:∃z,(t.f0==6)=z:=⟨_,rfl⟩;obtain⟨z42,lV⟩:∃z,(y.f1.toList==[42])=z:=⟨_,rfl⟩;have H6:=hide h6;have H42:=hide lV
   cases z6 with
   |true=>
    have HT:=hide (fun o=>uI (hf1.below (au (Below.refl wr.heap.size wr) o)) t.f1 (pos+1+2*(i:Int)) hsy aG)
    have QN:=hide (show∀o w2,Dc D {m with vl:=v1} ((lI st (pos+1) (l.take i)).give t.f1 (pos+1+2*(i:Int))) en (wr.alloc o) w2→XI0 D m st en s pos item l w.heap.size n (some ad) len c W1 (i+1) w2 from fun o w2 hq=>by
     refine⟨?_,(hq.fr.block _ FB G8.out).trans ((Below.heap_alloc _ _ _ (ay Q.out.box)).trans Q.out.box)⟩;rw[bJ iH.out,u_,NK.out];simp only;rw[if_pos MQ,htk];exact Dc.trans rZ.out (Q.out.q.fr.more (au (Below.refl _ _) o)) hq)
    exact adQ
   |false=>
    cases z42 with
    |true=>
     have QN:=hide (show∀o,XI0 D m st en s pos item l w.heap.size n (some ad) len c W1 (i+1) (wr.alloc o)from fun o=>by
      refine⟨?_,(Below.heap_alloc _ _ _ (ay Q.out.box)).trans Q.out.box⟩;rw[bJ iH.out,u_,NK.out];simp only;rw[if_neg MQ,if_pos (by simpa using H42.out)];exact Q.out.q.more (au (Below.refl _ _) o))
     clear hy dR hcells hbw hf1 hu1 hgr hg1 hg2 hfl hle hnb htk hyk hrt hcell2 Ju g_ hym hyn hw1 hw2 hw3;exact Yg
    |false=>
     have HT:=hide (fun o=>uI (hf1.below (au (Below.refl wr.heap.size wr) o)) y.f1 (pos+1+2*(i:Int)) abD aG)
     have QN:=hide (show∀o w2,Dc D {m with vl:=v1} ((lI st (pos+1) (l.take i)).give y.f1 (pos+1+2*(i:Int))) en (wr.alloc o) w2→XI0 D m st en s pos item l w.heap.size n (some ad) len c W1 (i+1) w2 from fun o w2 hq=>by
      refine⟨?_,(hq.fr.block _ FB G8.out).trans ((Below.heap_alloc _ _ _ (ay Q.out.box)).trans Q.out.box)⟩;rw[bJ iH.out,u_,NK.out];simp only;rw[if_neg MQ,if_neg (by simpa using H42.out),htk];exact Dc.trans rZ.out (Q.out.q.fr.more (au (Below.refl _ _) o)) hq)
     exact adQ
  ·exact Wx
theorem aoi (w0:World)(D:Nat)(k:Int)(Dq:k≠40)(lU:k≠41)(lV:k≠42)(h46:k≠46)(h66:k≠66)(Qn:k≠62)(h63:k≠63)(mh:k≠60)(h64:k≠64)(s:ByteArray)(n:Int)(l:List Tr)(hf:Fit ⟨k,s,n,l⟩)(hlc:Loc ⟨k,s,n,l⟩):yU w0 D ⟨k,s,n,l⟩:=by
 intro A c w m st en pos item hb hr h hbd;refine fK ?_;intro hss hpos hfe hp0 hp1 htp;have hgv:=hbd.given;refine nP ?_;intro hno;have hwk:kD st ⟨k,s,n,l⟩ pos item=st:=by unfold kD rR;simp only;rw[if_neg Qn,if_neg h63,if_neg aG,if_neg mh,if_neg h64]
 rw[hwk];refine OW ?_;intro len hlen;refine Cv ?_;intro W1 hW1;refine F9 ?_;intro hb1;refine GL ?_;intro hx1;refine OQ ?_;intro hf1 hl1;refine Hw ?_;intro b0;refine FY ?_;intro b1 b2 b3 HR HB HB1 gF gK jD gN lX jF;refine ql ?_;intro HLEN;have H0:=hide h;refine nJ ?_;intro q40 WS q42 q46 q66 q62 q63 q60 q64;clear hf hb hr h hbd hlc hb1 hx1 hf1 hl1 hno hlen hpos Dq lU lV h46 h66 Qn h63 mh h64 hfe;go_enter Tryz.func19,Tryz.ntmps19;go_wp2;go_end0
 first|exact⟨rfl,Dc.of_below H0.out HB1.out⟩|exact⟨trivial,Dc.of_below H0.out HB1.out⟩
theorem abF (w0:World)(D:Nat)(x:Tr)(hf:Fit x)(ha:bM x):yU w0 D x:=by
 have hl:=ha.loc;have hk:x.f0≠64→∀t,t∈x.f3→Loc t:=fun hn t ht=>(ha.kid hn ht).loc;obtain⟨k,s,n,l⟩:=x;simp only at hk;by_cases Dq:k=40;·subst Dq;exact adL w0 D s n l hf hl
 by_cases lU:k=41;·subst lU;exact adM w0 D s n l hf hl
 by_cases lV:k=42;·subst lV;exact adN w0 D s n l hf hl
 by_cases h46:k=46;·subst h46;exact adO w0 D s n l hf hl
 by_cases h66:k=66;·subst h66;exact adP w0 D s n l hf hl
 by_cases Qn:k=62;·subst Qn;exact ajr w0 D s n l hf hl (hk wN)
 by_cases h63:k=63
 ·subst h63
  obtain⟨t,ht⟩:=hl.dft rfl;simp only at ht;by_cases hq:t.f0=41∨t.f0=42
  ·exact agi w0 D s n l hf hl (hk wN) t ht hq
  ·exact agj w0 D s n l hf hl (hk wN) t ht hq
 by_cases mh:k=60;·subst mh;exact ajs w0 D s n l hf hl
 by_cases h64:k=64;·subst h64;exact aju w0 D s n l hf hl
 exact aoi w0 D k Dq lU lV h46 h66 Qn h63 mh h64 s n l hf hl
end Go.Proofs.YtldgmneijipbjaaGreatDoor.H
