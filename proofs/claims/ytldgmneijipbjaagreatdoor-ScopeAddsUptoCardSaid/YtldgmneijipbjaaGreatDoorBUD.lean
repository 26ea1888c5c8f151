import Derived.Test.YtldgmneijipbjaaGreatDoorBUB
import Derived.Test.YtldgmneijipbjaaGreatDoorBP1
import Derived.Test.YtldgmneijipbjaaGreatDoorBPB
import Derived.Laws.Strings
import Derived.Test.YtldgmneijipbjaaGreatDoorBMac
set_option linter.unusedVariables false
set_option linter.unusedSimpArgs false
set_option maxRecDepth 100000
set_option maxHeartbeats 16000000
section
namespace Go.Proofs.YtldgmneijipbjaaGreatDoor.H
open Go.RowKit Go.Proofs.YtldgmneijipbjaaGreatDoorW.PrintWords Go.Proofs.YtldgmneijipbjaaGreatDoorW.PrintLast Go.Proofs.YtldgmneijipbjaaGreatDoorW.PrintMore
open PScopeOwn
mutual
def szW:Tr→Int
 |⟨_,_,_,l⟩=>Tv 1 l
def Tv:Int→List Tr→Int
 |a,[]=>a
 |a,x::l=>Tv (wrap64 (a+szW x)) l
end
theorem Wp (x:Tr):szW x=Tv 1 x.f3:=by obtain⟨a,b,c,l⟩:=x;rw[szW]
theorem Wq (m:Nat):∀x:Tr,SizeOf.sizeOf x≤m→Fit x→Ev (fun k=>dN.f k x.f0 x.f1 x.f2 x.f3) (szW x):=by
 induction m with
 |zero=>intro x hx;obtain⟨a,b,c,d⟩:=x;simp[jh.mk.sizeOf_spec]at hx
 |succ m ih=>
  intro x hx hf;have hl:=hf.len
  have loop:∀d i:Nat,x.f3.length-i=d→i≤x.f3.length→∀a,Ev (fun k=>dN.l0 k a x.f3 (x.f3.length:Int) (i:Int)) (Tv a (x.f3.drop i)):=by
   intro d
   induction d with
   |zero=>
    intro i hi hle a;refine j_ (Ev.step (f:=fun _=>some a) (fun k=>?_) (Ev.now _)) ?_
    ·simp only[dN.l0];rw[if_neg aG]
    ·rw[List.drop_eq_nil_of_le aG,Tv]
   |succ d ihd=>
    intro i hi hle a;obtain⟨y,hy⟩:=eO (l:=x.f3) (i:=i) aG;rw[drop_at hy,Tv];refine Ev.step (f:=fun k=>(dN.f k y.f0 y.f1 y.f2 y.f3).bind fun t=>dN.l0 k (wrap64 (a+t)) x.f3 (x.f3.length:Int) ((i+1:Nat):Int)) (fun k=>?_) ?_
    ·simp only[dN.l0];rw[if_pos aG,if_pos aG,if_pos aG,acY hy,wrap_small aG aG];rfl
    ·exact adw
  rw[Wp];refine Ev.step (f:=fun k=>dN.l0 k 1 x.f3 (x.f3.length:Int) 0) (fun k=>?_) ?_
  ·simp only[dN.f]
  ·exact loop x.f3.length 0 aG aG 1
theorem Ws (m:Nat):∀x:Tr,SizeOf.sizeOf x≤m→Fit x→Ev (fun k=>bE.f k x.f0 x.f1 x.f2 x.f3) (szW x):=by
 induction m with
 |zero=>intro x hx;obtain⟨a,b,c,d⟩:=x;simp[jh.mk.sizeOf_spec]at hx
 |succ m ih=>
  intro x hx hf;have hl:=hf.len
  have loop:∀d i:Nat,x.f3.length-i=d→i≤x.f3.length→∀a,Ev (fun k=>bE.l0 k a (i:Int) x.f0 x.f1 x.f2 x.f3) (Tv a (x.f3.drop i)):=by
   intro d
   induction d with
   |zero=>
    intro i hi hle a;refine j_ (Ev.step (f:=fun _=>some a) (fun k=>?_) (Ev.now _)) ?_
    ·simp only[bE.l0];rw[if_neg aG]
    ·rw[List.drop_eq_nil_of_le aG,Tv]
   |succ d ihd=>
    intro i hi hle a;obtain⟨y,hy⟩:=eO (l:=x.f3) (i:=i) aG;rw[drop_at hy,Tv];refine Ev.step (f:=fun k=>(bE.f k y.f0 y.f1 y.f2 y.f3).bind fun t=>bE.l0 k (wrap64 (a+t)) ((i+1:Nat):Int) x.f0 x.f1 x.f2 x.f3) (fun k=>?_) ?_
    ·simp only[bE.l0];rw[if_pos aG,if_pos aG,acY hy,wrap_small aG aG];rfl
    ·exact adw
  rw[Wp];refine Ev.step (f:=fun k=>bE.l0 k 1 0 x.f0 x.f1 x.f2 x.f3) (fun k=>?_) ?_
  ·simp only[bE.f]
  ·exact loop x.f3.length 0 aG aG 1
mutual
theorem Nt:∀x:Tr,(flat x).length≤1099511627776→szW x=sz x
 |⟨k,s,n,l⟩,h=>by
  rw[flat,List.length_cons]at h;rw[szW,Wt l 1 aG aG];unfold sz;rw[flat,List.length_cons];omega
theorem Wt:∀(l:List Tr) (a:Int),1≤a→a+(aM l).length≤1099511627777→Tv a l=a+(aM l).length
 |[],a,h0,h=>by simp[Tv,aM]
 |x::l,a,h0,h=>by
  rw[aM,List.length_append]at h;have hx:=Nt x aG;rw[Tv,hx,aM,List.length_append];have e:wrap64 (a+sz x)=a+sz x:=by unfold sz;unfold wrap64;omega
  rw[e];unfold sz;rw[Wt l _ aG aG];omega
end
def Qh (w:World)(r:Int)(e:Ending)(w':World):Prop:=e= .returned (.int .i64 r)∧Below w.heap.size w w'
theorem qQ (x:Tr)(hf:Fit x)(hb:(flat x).length≤1099511627776)(A:Option Addr)(c:Nat)(w:World)(hk:Kd.C KT w A x.f3.length x.f3)(hc:x.f3.length≤c):Calls Tryz.prog 20 #[nd x A c] w (Qh w (sz x)):=by
 obtain⟨k,hk2⟩:=Wq _ x (Nat.le_refl _) hf;refine(dN.calls k x.f0 x.f1 x.f2 A c x.f3 (szW x) w hk hc (hk2 k (Nat.le_refl _))).mono ?_;rintro e w' ⟨rfl,h⟩;exact⟨by rw[Nt x hb],h⟩
theorem mY (x:Tr)(hf:Fit x)(hb:(flat x).length≤1099511627776)(A:Option Addr)(c:Nat)(w:World)(hk:Kd.C KT w A x.f3.length x.f3)(hc:x.f3.length≤c):Calls Tryz.prog 12 #[nd x A c] w (Qh w (sz x)):=by
 obtain⟨k,hk2⟩:=Ws _ x (Nat.le_refl _) hf;refine(bE.calls k x.f0 x.f1 x.f2 A c x.f3 (szW x) w hk hc (hk2 k (Nat.le_refl _))).mono ?_;rintro e w' ⟨rfl,h⟩;exact⟨by rw[Nt x hb],h⟩
end Go.Proofs.YtldgmneijipbjaaGreatDoor.H
end
section
namespace Go.Proofs.YtldgmneijipbjaaGreatDoor.H
open Go.RowKit Go.Shelf Go.Maps Go.WideMaps Go.Proofs.YtldgmneijipbjaaGreatDoorW.PrintWords Go.Proofs.YtldgmneijipbjaaGreatDoorW.PrintLast Go.Proofs.YtldgmneijipbjaaGreatDoorW.PrintMore
open PScopeOwn
structure Bd (n:Nat)(m:FM)(st:PS)(pos:Int):Prop where
 p0:0≤pos
 p1:pos+n≤1099511627776
 us:st.uses.length+n≤1099511627776
 ms:m.ms.length+n≤1099511627776
def WalkC (w0:World)(D:Nat)(x:Tr):Prop:=∀(A:Option Addr) (c:Nat) (w:World) (m:FM) (st:PS) (en:En) (pos:Int),Below D w0 w→Ap w0 (fun k=>k<D) x A c→Fin D w m st en→Bd (flat x).length m st pos→
 Calls Tryz.prog 39 #[.pointer (some ⟨m.g,0,none⟩),nd x A c,.int .i64 pos] w fun e w'=>e= .returned (.tuple #[])∧Wk D m (mo en st pos x) en w w'
def uN (w0:World)(D:Nat)(x:Tr):Prop:=∀(A:Option Addr) (c:Nat) (w:World) (m:FM) (st:PS) (en:En) (pos:Int),Below D w0 w→Ap w0 (fun k=>k<D) x A c→Fin D w m st en→0≤pos→Bd (aM x.f3).length m st (pos+1)→
 Calls Tryz.prog 21 #[.pointer (some ⟨m.g,0,none⟩),nd x A c,.int .i64 pos] w fun e w'=>e= .returned (.tuple #[])∧Wk D m (bK en st (pos+1) x.f3) en w w'
theorem Fin.bR {D:Nat}{w0 w w':World}{m:FM}{st:PS}{en:En}(h:Fin D w m st en)(hb:Below D w0 w)(hf:Fr m.own w w'):Below D w0 w':=
 hb.trans (hf.below (Nat.le_trans h.lg (Nat.le_of_lt (ay h.blk))) h.low)
theorem Wk.bR {D:Nat}{w0 w w':World}{m:FM}{st st':PS}{en en':En}(q:Wk D m st' en' w w')(h:Fin D w m st en)(hb:Below D w0 w):Below D w0 w':=h.bR hb q.fr
theorem Wk.more {D:Nat}{w w' w2:World}{m:FM}{st:PS}{en:En}(q:Wk D m st en w w')(h:Below w'.heap.size w' w2):Wk D m st en w w2:=by
 obtain⟨m',h1,h2⟩:=q.fin;exact⟨⟨m',h1.below h,h2⟩,q.fr.more h⟩
theorem take_len {x:Tr}{i:Nat}{y:Tr}(h:x.f3[i]?=some y):(aM (x.f3.take i)).length+(flat y).length+1≤(flat x).length:=by
 have h1:=congrArg List.length (xA h);simp only[List.length_append,List.length_cons]at h1;omega
theorem bJ {α:Type}{l:List α}{i:Nat}{y:α}(h:l[i]?=some y):l.take (i+1)=l.take i++[y]:=by
 have hi:=(List.getElem?_eq_some_iff.1 h).1;rw[List.take_succ_eq_append_getElem hi,(List.getElem?_eq_some_iff.1 h).2]
theorem bC (x:Tr):(flat x).length=(aM x.f3).length+1:=by rw[gD];simp
structure KI (D:Nat)(x:Tr)(A:Option Addr)(c n:Nat)(m:FM)(st:PS)(en:En)(pos:Int)(bx:Nat)(w1:World)(i:Nat)(p:Int)(wr:World):Prop where
 q:Wk D m (bK en st (pos+1) (x.f3.take i)) en w1 wr
 box:wr.heap[bx]?=some (.cells #[.int .i64 x.f0,.string x.f1,.int .i64 x.f2,.slice A n c] 24 (0,0))
 p:p=pos+1+(aM (x.f3.take i)).length
theorem KH {w0:World}{D:Nat}{x:Tr}(hf:Fit x)(hk:∀y,y∈x.f3→WalkC w0 D y):uN w0 D x:=by
 intro A c w m st en pos hb hr h hp0 hbd;refine Zg ?_;intro n hn hnb w1 hw1 hb1 hx1;have c3:w1.cell? ⟨w.heap.size,3,none⟩=some (.slice A n c):=(aj hx1 3).trans rfl;have hp1:=hbd.p1;have hpos:=bC x;refine X4 ?_;intro hw;have HK:=hide hk;refine H7 ?_;intro HF HR HN vR gK HB1 dI HW1;have H0:=hide h;have Q0:=hide (show KI D x A c n m st en pos w.heap.size w1 0 (pos+1) w1 from⟨⟨⟨m,by simpa [bK]using h.below hb1,FM.Up.refl _ _⟩,Fr.refl _ _⟩,hx1,Oe⟩);unfold nd;rw[hn];clear hk hf hb hr h hbd hn hb1 hx1 hpos;go_enter Tryz.func21,Tryz.ntmps21;go_wp2;clear c3 hw hw1;go_loopg [13,2] (n+1) (fun gk v13 v2 wr=>∃(i:Nat) (p:Int),i≤n∧n-i<gk∧v13= .int .i64 i∧v2= .int .i64 p∧Aside0 (KI D x A c n m st en pos w.heap.size w1 i p wr))
 case atStart=>exact⟨0,pos+1,Nat.zero_le _,aG,rfl,rfl,Q0⟩
 case round=>
  obtain⟨i,p,hi,lS,rfl,rfl,Q⟩:=hrel;clear Q0;refine VT ?_;intro c3;by_cases hlt:i<n
  ·refine WU ?_
   intro eY y hy;obtain⟨ad,A',c',rfl,dR,hcells⟩:=HR.out.kid hy;have hbw:=Q.out.q.bR gK.out HB1.out;refine Cr ?_;intro k0 k1 k2 k3 kC iH sV;clear hy dR hcells hbw;go_wp2_with (go_at_call 39;refine Aside0.out ?_);refine⟨?_⟩;obtain⟨m1,hf1,hu1⟩:=Q.out.q.fin;refine OA ?_;intro wb hwb hbb hxb;have hgr:=iX (x.f3.take i) en st (pos+1);have htl:=take_len iH.out;have hfl:=bC x;have hpp:=Q.out.p;have hbd:=vR.out;have h2:=hbd.us;have h3:=hbd.ms;have h4:=hgr.len;have xQ:Bd (flat y).length m1 (bK en st (pos+1) (x.f3.take i)) p:=⟨aG,aG,aG,by rw[hu1.ms];omega⟩;have hb2:=hf1.bR sV.out (Fr.of_below hbb);have hcall:=HK.out y (bZ iH.out) A' c' wb m1 _ en p hb2 kC.out (hf1.below hbb) xQ;rw[hu1.g]at hcall;refine hcall.mono ?_;rintro e w2 ⟨rfl,hq⟩;have hb3:=hq.bR (hf1.below hbb) hb2;have hnx:¬m1.own wr.heap.size:=fun k=>by have:=hf1.hi _ k;omega
   refine Vv ?_;intro xR;have hwl:=ay Q.out.box;have hx2:=(hq.fr.block _ (ay hxb) hnx).trans hxb;have j5:=(hq.fr.block _ (Nat.lt_of_lt_of_le hwl hbb.size) xR).trans ((hbb.block _ hwl).trans Q.out.box);refine H9 ?_;intro s hs hs0 hws;have lW:=hide (qQ y (HF.out.kid (bZ iH.out)) aG A' c' w2 (kC.out.kids w2 (fun k hk _=>hb3.block k hk)) kC.out.cap);rw[hs]at lW
   have QN:=hide (show∀w3,Below w2.heap.size w2 w3→KI D x (some ad) c n m st en pos w.heap.size w1 (i+1) (p+s) w3 from fun w3 h3=>by
    refine⟨?_,(h3.block _ (ay j5)).trans j5,?_⟩
    ·rw[bJ iH.out,lJ,←hpp]
     exact(Wk.trans hu1 (Q.out.q.fr.more hbb) hq).more h3
    ·rw[bJ iH.out,gU,hs,hpp];omega)
   have d0:w2.cell? ⟨wr.heap.size,0,none⟩=some (.int .i64 y.f0):=(aj hx2 0).trans rfl;have d1:w2.cell? ⟨wr.heap.size,1,none⟩=some (.string y.f1):=(aj hx2 1).trans rfl;have d2:w2.cell? ⟨wr.heap.size,2,none⟩=some (.int .i64 y.f2):=(aj hx2 2).trans rfl;have d3:w2.cell? ⟨wr.heap.size,3,none⟩=some (.slice A' y.f3.length c'):=(aj hx2 3).trans rfl;clear hfl hcall hq hf1 hu1 hbb hxb hgr htl hpp hbd h2 h3 h4 xQ hb2 hb3 hnx xR hx2 j5 hs hs0 hwl hwb k0 k1 k2 k3 c3;unfold nd at lW;go_wp2_with (go_at_call 20;refine lW.out.mono ?_;rintro e w3 ⟨rfl,h3⟩;have Q2:=hide (QN.out w3 h3);clear h3);exact vS
  ·exact adE
structure B3 (w:World)(g ba bn bg:Nat)(pos:Int)(x:Tr)(A:Option Addr)(c:Nat):Prop where
 a:w.heap[ba]?=some (.cells #[.int .i64 pos] 3 (0,0))
 n:w.heap[bn]?=some (.cells #[.int .i64 x.f0,.string x.f1,.int .i64 x.f2,.slice A x.f3.length c] 24 (0,0))
 g:w.heap[bg]?=some (.cells #[.pointer (some ⟨g,0,none⟩)] 51 (0,0))
theorem B3.fr {w w':World}{g ba bn bg:Nat}{pos:Int}{x:Tr}{A:Option Addr}{c:Nat}{S:Nat→Prop}(h:B3 w g ba bn bg pos x A c)(hf:Fr S w w')(h1:¬S ba)(h2:¬S bn)(h3:¬S bg):B3 w' g ba bn bg pos x A c:=
 ⟨(hf.block _ (ay h.a) h1).trans h.a,(hf.block _ (ay h.n) h2).trans h.n,(hf.block _ (ay h.g) h3).trans h.g⟩
theorem B3.below {w w':World}{g ba bn bg:Nat}{pos:Int}{x:Tr}{A:Option Addr}{c:Nat}(h:B3 w g ba bn bg pos x A c)(hb:Below w.heap.size w w'):B3 w' g ba bn bg pos x A c:=h.fr (S:=fun _=>False) (Fr.of_below hb) id id id
structure DI (D:Nat)(en:En)(m1:FM)(b bs bf ba bn bg:Nat)(pos:Int)(x:Tr)(A:Option Addr)(c:Nat)(W:World)(r:PS×List dQ)(q p:Int)(wr:World):Prop where
 fin:Fin D wr m1 r.1 ⟨en.fP++[r.2],en.this,en.back⟩
 fr:Fr (fun k=>k=m1.g∨k=b) W wr
 bx:Bx wr m1.g b bs bf
 b3:B3 wr m1.g ba bn bg pos x A c
 p:p=q
theorem DI.below {D:Nat}{en:En}{m1:FM}{b bs bf ba bn bg:Nat}{pos:Int}{x:Tr}{A:Option Addr}{c:Nat}{W:World}{r:PS×List dQ}{q p:Int}{wr w2:World}(h:DI D en m1 b bs bf ba bn bg pos x A c W r q p wr)(hb:Below wr.heap.size wr w2):DI D en m1 b bs bf ba bn bg pos x A c W r q p w2:=
 ⟨h.fin.below hb,h.fr.more hb,h.bx.below hb,h.b3.below hb,h.p⟩
theorem ajb {w0:World}{D:Nat}{x:Tr}(hf:Fit x)(hk:uN w0 D x){pr:Tr}{l':List Tr}(hx:x.f3=pr::l'){A:Option Addr}{c:Nat}{w:World}{m:FM}{st:PS}{en:En}{pos:Int}(hb:Below D w0 w)(hr:Ap w0 (fun k=>k<D) x A c)(h:Fin D w m st en)(hbd:Bd (flat x).length m st pos){ba bn bg:Nat}(h3:B3 w m.g ba bn bg pos x A c)(ho1:¬m.own ba)(ho2:¬m.own bn)(ho3:¬m.own bg):
  DoC 116 #[.pointer (some ⟨ba,0,none⟩),.pointer (some ⟨bn,0,none⟩),.pointer (some ⟨bg,0,none⟩)] D w m st (bK ⟨en.fP++[(fB (st,[]) (pos+2) (fG x.f3)).2],en.this,en.back⟩ (fB (st,[]) (pos+2) (fG x.f3)).1 (pos+1) x.f3) en:=by
 intro W m1 b bs bf hF hms hg hown Wu Wv hbx hfr;rw[show fG x.f3=pr.f3 from by rw[hx];rfl];have Ww:b∈m1.ms:=by rw[hms];simp
 have hno:∀k,k<w.heap.size→¬m.own k→k≠m1.g∧k≠b∧¬m1.own k:=fun k h1 h2=>by
  exact Yf
 refine Y4 ?_;clear hbx;intro hbx na nn ng ns nf hbW Tw;show Calls Tryz.prog 116 #[afH bs bf,.pointer (some ⟨ba,0,none⟩),.pointer (some ⟨bn,0,none⟩),.pointer (some ⟨bg,0,none⟩)] W _;obtain⟨nx,hnx⟩:∃k,x.f3.length=k:=⟨_,rfl⟩;have Sd:=bC x;have hp0:=hbd.p0;have hp1:=hbd.p1;have Cm:x.f3[0]?=some pr:=by rw[hx];rfl
 have Sg:pr∈x.f3:=by rw[hx];simp
 obtain⟨ad,A1,c1,rfl,hr1,hcl⟩:=hr.kid Cm;obtain⟨-,-,-,k3⟩:=hcl W (fun k hk=>hbW.block k hk);simp only[kN]at k3;have hf1:Fit pr:=hf.kid Sg;have ajc:(0:Int)<(nx:Int):=by rw[←hnx,hx];simp
 have hlen1:(aM pr.f3).length+2≤(flat x).length:=by
  have h1:=take_len Cm;have h2:=bC pr;simp[aM]at h1;omega
 obtain⟨n,hn⟩:∃n,pr.f3.length=n:=⟨_,rfl⟩;have hnb:n≤1099511627776:=by rw[←hn];exact hf1.len2
 have c3:W.cell? ⟨bn,3,none⟩=some (.slice (some ad) nx c):=by rw[←hnx];exact(aj Tw.n 3).trans rfl
 rw[hn]at k3;have hw:wrap64 (pos+2)=pos+2:=zy;have RL:=hide (show Kd.F KT w0 (fun k=>k<D) A1 pr.f3.length pr.f3 from hr1.kids);have c0:W.cell? ⟨ba,0,none⟩=some (.int .i64 pos):=(aj Tw.a 0).trans rfl;have HK:=hide hk;have HF:=hide hf1;have HR:=hide hr1;refine ZE ?_;intro HRX HN jL vR sV HLEN Vt HNA J4 HNG HNS HNF Af tF HBM;have Q0:=hide (show DI D en m1 b bs bf ba bn bg pos x (some ad) c W (fB (st,[]) (pos+2) (pr.f3.take 0)) (pos+2+(aM (pr.f3.take 0)).length) (pos+2) W from⟨by simpa [fB]using hF,Fr.refl _ _,hbx,Tw,Oe⟩);clear hk hf hf1 hb hr h hbd h3 ho1 ho2 ho3 hF hms hg hown Wu Wv hbx hfr Ww hno na nn ng ns nf hbW Tw hnx Sd hn hlen1 Cm Sg hr1 hcl hx;go_enter Tryz.func116,Tryz.ntmps116;go_wp2;clear c3 c0 hw k3 ajc;go_loopg [16,5] (n+1) (fun gk v16 v5 wr=>∃(i:Nat) (p:Int),i≤n∧n-i<gk∧v16= .int .i64 i∧v5= .int .i64 p∧Aside0 (DI D en m1 b bs bf ba bn bg pos x (some ad) c W (fB (st,[]) (pos+2) (pr.f3.take i)) (pos+2+(aM (pr.f3.take i)).length) p wr))
 case atStart=>exact⟨0,pos+2,Nat.zero_le _,aG,rfl,rfl,Q0⟩
 case round=>
  obtain⟨i,p,hi,lS,rfl,rfl,Q⟩:=hrel;clear Q0;by_cases hlt:i<n
  ·have eY:(i:Int)<(n:Int):=aG
   obtain⟨y,hy⟩:=eO (l:=pr.f3) (i:=i) mV;obtain⟨eB,A',c',rfl,dR,hcells⟩:=HR.out.kid hy;have hbw:Below D w0 wr:=sV.out.trans (Q.out.fr.below Af.out (by rintro k (rfl|rfl);exact tF.out _ (.inl rfl);exact tF.out _ (.inr (.inr (.inr (.inr (.inr (.inr HBM.out))))))));obtain⟨k0,k1,k2,k3⟩:=hcells wr (fun k hk=>hbw.block k hk);have kC:=hide dR;have iH:=hide hy;have af0:=hide hbw;clear hy dR hcells hbw
   have zR:(aM (pr.f3.take i)).length+(flat y).length≤(aM pr.f3).length:=by
    have h1:=take_len (x:=⟨0,⟨#[]⟩,0,pr.f3⟩) iH.out;have h2:=bC ⟨0,⟨#[]⟩,0,pr.f3⟩;simp only at h1 h2;omega
   go_wp2_with (go_at_call 123;refine Aside0.out ?_);refine⟨?_⟩;refine OA ?_;intro wb hwb hbb hxb;have GJ:=Q.out.below hbb
   have hsc:(fB (st,[]) (pos+2) (pr.f3.take i)).2.length≤1099511627776:=by
    have h1:=PU (pr.f3.take i) (st,[]) (pos+2);simp only[List.length_take,List.length_nil]at h1;have h2:=HN.out;omega
   refine(uM (sc:=(fB (st,[]) (pos+2) (pr.f3.take i)).2) GJ.fin (ms0:=m.ms) Vt.out GJ.bx y A' c' p true (HF.out.kid (bZ iH.out)).str hsc).mono ?_;rintro e w2 ⟨rfl,Cn,hfr2⟩;refine Jg ?_;intro hx2
   have hq2:DI D en m1 b bs bf ba bn bg pos x (some ad) c W (decP (fB (st,[]) (pos+2) (pr.f3.take i)) y p true) (pos+2+(aM (pr.f3.take i)).length) p w2:=
    ⟨Cn,(Q.out.fr.more hbb).trans hfr2 (fun k hk=> .inl hk),GJ.bx.fr hfr2 (by rintro(e|e);exact HNS.out.1 e;exact HNS.out.2 e) (by rintro(e|e);exact HNF.out.1 e;exact HNF.out.2 e),GJ.b3.fr hfr2 (by rintro(e|e);exact HNA.out.1 e;exact HNA.out.2.1 e) (by rintro(e|e);exact J4.out.1 e;exact J4.out.2.1 e) (by rintro(e|e);exact HNG.out.1 e;exact HNG.out.2.1 e),GJ.p⟩
   have hb2:Below D w0 w2:=sV.out.trans (hq2.fr.below Af.out (by rintro k (rfl|rfl);exact tF.out _ (.inl rfl);exact tF.out _ (.inr (.inr (.inr (.inr (.inr (.inr HBM.out))))))));obtain⟨s,hs⟩:∃s,sz y=s:=⟨_,rfl⟩;have hpp:=hq2.p;have hlen1:=HLEN.out;have hs0:0≤s∧s≤(flat y).length:=by rw[←hs];unfold sz;omega
   have hws:wrap64 (p+s)=p+s:=by unfold wrap64;omega
   have lW:=hide (qQ y (HF.out.kid (bZ iH.out)) (by omega) A' c' w2 (kC.out.kids w2 (fun k hk _=>hb2.block k hk)) kC.out.cap);rw[hs]at lW
   have QN:=hide (show∀w3,Below w2.heap.size w2 w3→DI D en m1 b bs bf ba bn bg pos x (some ad) c W (fB (st,[]) (pos+2) (pr.f3.take (i+1))) (pos+2+(aM (pr.f3.take (i+1))).length) (p+s) w3 from fun w3 h3=>by
    have hq3:=hq2.below h3
    have e1:fB (st,[]) (pos+2) (pr.f3.take (i+1))=decP (fB (st,[]) (pos+2) (pr.f3.take i)) y p true:=by
     rw[bJ iH.out,J_,←hpp]
    rw[e1];exact⟨hq3.fin,hq3.fr,hq3.bx,hq3.b3,Oz⟩)
   exact I9
  ·obtain rfl:i=n:=aG
   refine FW ?_;intro hq e0 eg n0 n1 n2;have n3:wr.cell? ⟨bn,3,none⟩=some (.slice (some ad) x.f3.length c):=(aj hq.b3.n 3).trans rfl;have hbw:Below D w0 wr:=sV.out.trans (hq.fr.below Af.out (by rintro k (rfl|rfl);exact tF.out _ (.inl rfl);exact tF.out _ (.inr (.inr (.inr (.inr (.inr (.inr HBM.out))))))));have hgr:=mW (pr.f3) (st,[]) (pos+2);refine yT ?_;intro hbd g1 g2 g3 g4 g5;have HC:=hide (HK.out (some ad) c wr m1 _ _ pos hbw HRX.out hq.fin hbd.p0 ⟨aG,aG,aG,aG⟩);exact OY
theorem ajd {w0:World}{D:Nat}{x:Tr}(hf:Fit x)(hk:uN w0 D x){A:Option Addr}{c:Nat}{w:World}{m:FM}{st:PS}{en:En}{pos:Int}(hb:Below D w0 w)(hr:Ap w0 (fun k=>k<D) x A c)(h:Fin D w m st en)(hbd:Bd (flat x).length m st pos){ba bn bg:Nat}(h3:B3 w m.g ba bn bg pos x A c)(ho1:¬m.own ba)(ho2:¬m.own bn)(ho3:¬m.own bg):
  DoC 117 #[.pointer (some ⟨ba,0,none⟩),.pointer (some ⟨bn,0,none⟩),.pointer (some ⟨bg,0,none⟩)] D w m st (bK ⟨en.fP++[(gq (st,[]) (pos+1) x.f3).2],en.this,en.back⟩ (gq (st,[]) (pos+1) x.f3).1 (pos+1) x.f3) en:=by
 intro W m1 b bs bf hF hms hg hown Wu Wv hbx hfr;have Ww:b∈m1.ms:=by rw[hms];simp
 have hno:∀k,k<w.heap.size→¬m.own k→k≠m1.g∧k≠b∧¬m1.own k:=fun k h1 h2=>by
  exact Yf
 refine Y4 ?_;clear hbx;intro hbx na nn ng ns nf hbW Tw;show Calls Tryz.prog 117 #[afH bs bf,.pointer (some ⟨ba,0,none⟩),.pointer (some ⟨bn,0,none⟩),.pointer (some ⟨bg,0,none⟩)] W _;obtain⟨nx,hnx⟩:∃k,x.f3.length=k:=⟨_,rfl⟩;have Sd:=bC x;have hp0:=hbd.p0;have hp1:=hbd.p1;have hf1:Fit x:=hf;have hlen1:(aM x.f3).length+1≤(flat x).length:=aG;obtain⟨n,hn⟩:∃n,x.f3.length=n:=⟨_,rfl⟩;have hnb:n≤1099511627776:=by rw[←hn];exact hf1.len2
 have c3:W.cell? ⟨bn,3,none⟩=some (.slice A n c):=by rw[←hn];exact(aj Tw.n 3).trans rfl
 refine X4 ?_;intro hw;have c0:W.cell? ⟨ba,0,none⟩=some (.int .i64 pos):=(aj Tw.a 0).trans rfl;have HK:=hide hk;have HF:=hide hf1;have HR:=hide hr;refine ZE ?_;intro HRX HN jL vR sV HLEN Vt HNA J4 HNG HNS HNF Af tF HBM;have Q0:=hide (show DI D en m1 b bs bf ba bn bg pos x A c W (gq (st,[]) (pos+1) (x.f3.take 0)) (pos+1+(aM (x.f3.take 0)).length) (pos+1) W from⟨by simpa [gq]using hF,Fr.refl _ _,hbx,Tw,Oe⟩);clear hk hf hf1 hb hr h hbd h3 ho1 ho2 ho3 hF hms hg hown Wu Wv hbx hfr Ww hno na nn ng ns nf hbW Tw hnx Sd hn hlen1;go_enter Tryz.func117,Tryz.ntmps117;go_wp2;clear c3 c0 hw;go_loopg [13,5] (n+1) (fun gk v13 v5 wr=>∃(i:Nat) (p:Int),i≤n∧n-i<gk∧v13= .int .i64 i∧v5= .int .i64 p∧Aside0 (DI D en m1 b bs bf ba bn bg pos x A c W (gq (st,[]) (pos+1) (x.f3.take i)) (pos+1+(aM (x.f3.take i)).length) p wr))
 case atStart=>exact⟨0,pos+1,Nat.zero_le _,aG,rfl,rfl,Q0⟩
 case round=>
  obtain⟨i,p,hi,lS,rfl,rfl,Q⟩:=hrel;clear Q0;by_cases hlt:i<n
  ·refine WU ?_
   intro eY y hy;obtain⟨eB,A',c',rfl,dR,hcells⟩:=HR.out.kid hy;have hbw:Below D w0 wr:=sV.out.trans (Q.out.fr.below Af.out (by rintro k (rfl|rfl);exact tF.out _ (.inl rfl);exact tF.out _ (.inr (.inr (.inr (.inr (.inr (.inr HBM.out))))))));obtain⟨k0,k1,k2,k3⟩:=hcells wr (fun k hk=>hbw.block k hk);have kC:=hide dR;have iH:=hide hy;have af0:=hide hbw;clear hy dR hcells hbw
   have zR:(aM (x.f3.take i)).length+(flat y).length≤(aM x.f3).length:=by
    have h1:=take_len (x:=⟨0,⟨#[]⟩,0,x.f3⟩) iH.out;have h2:=bC ⟨0,⟨#[]⟩,0,x.f3⟩;simp only at h1 h2;omega
   obtain⟨z40,Dq⟩:∃z,(y.f0==40)=z:=⟨_,rfl⟩;obtain⟨z41,lU⟩:∃z,(y.f0==41)=z:=⟨_,rfl⟩;obtain⟨z0,h0⟩:∃z,(y.f2==0)=z:=⟨_,rfl⟩;have aje:(y.f0=40∨y.f0=41)↔(z40||z41)=true:=by rw[←Dq,←lU];simp
   have hfree:(y.f0==40&&y.f2==0)=(z40&&z0):=by rw[Dq,h0]
   have af2:=hide aje;have adG:=hide hfree;clear aje hfree
   cases z40 with
   |true=>
    cases z0 with
    |true=>
     go_wp2_with (go_at_call 123;refine Aside0.out ?_);refine⟨?_⟩;refine OA ?_;intro wb hwb hbb hxb;have GJ:=Q.out.below hbb
     have hsc:(gq (st,[]) (pos+1) (x.f3.take i)).2.length≤1099511627776:=by
      have h1:=Ay (x.f3.take i) (st,[]) (pos+1);simp only[List.length_take,List.length_nil]at h1;have h2:=HN.out;omega
     refine(uM (sc:=(gq (st,[]) (pos+1) (x.f3.take i)).2) GJ.fin (ms0:=m.ms) Vt.out GJ.bx y A' c' p true (HF.out.kid (bZ iH.out)).str hsc).mono ?_;rintro e w2 ⟨rfl,Cn,hfr2⟩;refine Jg ?_;intro hx2
     have hq2:DI D en m1 b bs bf ba bn bg pos x (some eB) c W (decP (gq (st,[]) (pos+1) (x.f3.take i)) y p true) (pos+1+(aM (x.f3.take i)).length) p w2:=
      ⟨Cn,(Q.out.fr.more hbb).trans hfr2 (fun k hk=> .inl hk),GJ.bx.fr hfr2 (by rintro(e|e);exact HNS.out.1 e;exact HNS.out.2 e) (by rintro(e|e);exact HNF.out.1 e;exact HNF.out.2 e),GJ.b3.fr hfr2 (by rintro(e|e);exact HNA.out.1 e;exact HNA.out.2.1 e) (by rintro(e|e);exact J4.out.1 e;exact J4.out.2.1 e) (by rintro(e|e);exact HNG.out.1 e;exact HNG.out.2.1 e),GJ.p⟩
     have hb2:Below D w0 w2:=sV.out.trans (hq2.fr.below Af.out (by rintro k (rfl|rfl);exact tF.out _ (.inl rfl);exact tF.out _ (.inr (.inr (.inr (.inr (.inr (.inr HBM.out))))))));obtain⟨s,hs⟩:∃s,sz y=s:=⟨_,rfl⟩;have hpp:=hq2.p;have hlen1:=HLEN.out;have hs0:0≤s∧s≤(flat y).length:=by rw[←hs];unfold sz;omega
     have hws:wrap64 (p+s)=p+s:=by unfold wrap64;omega
     have lW:=hide (qQ y (HF.out.kid (bZ iH.out)) (by omega) A' c' w2 (kC.out.kids w2 (fun k hk _=>hb2.block k hk)) kC.out.cap);rw[hs]at lW
     have QN:=hide (show∀w3,Below w2.heap.size w2 w3→DI D en m1 b bs bf ba bn bg pos x (some eB) c W (gq (st,[]) (pos+1) (x.f3.take (i+1))) (pos+1+(aM (x.f3.take (i+1))).length) (p+s) w3 from fun w3 h3=>by
      have hq3:=hq2.below h3
      have e1:gq (st,[]) (pos+1) (x.f3.take (i+1))=decP (gq (st,[]) (pos+1) (x.f3.take i)) y p true:=by
       rw[bJ iH.out,xG,←hpp,if_pos (af2.out.2 rfl),adG.out];try rfl
      rw[e1];exact⟨hq3.fin,hq3.fr,hq3.bx,hq3.b3,Oz⟩)
     exact I9
    |false=>
     exact adH
   |false=>
    cases z41 with
    |true=>
     exact adH
    |false=>
     go_wp2_with (go_at_call 20;refine Aside0.out ?_);refine⟨?_⟩;obtain⟨w2,hwb⟩:∃wb,wr.alloc (.cells #[.int .i64 y.f0,.string y.f1,.int .i64 y.f2,.slice A' y.f3.length c'] 24)=wb:=⟨_,rfl⟩;rw[hwb];have hbb:Below wr.heap.size wr w2:=hwb▸au (Below.refl _ _) _;have hq2:=Q.out.below hbb;have hb2:Below D w0 w2:=sV.out.trans (hq2.fr.below Af.out (by rintro k (rfl|rfl);exact tF.out _ (.inl rfl);exact tF.out _ (.inr (.inr (.inr (.inr (.inr (.inr HBM.out))))))));obtain⟨s,hs⟩:∃s,sz y=s:=⟨_,rfl⟩;have hpp:=hq2.p;have hlen1:=HLEN.out;have hs0:0≤s∧s≤(flat y).length:=by rw[←hs];unfold sz;omega
     have hws:wrap64 (p+s)=p+s:=by unfold wrap64;omega
     have lW:=hide (qQ y (HF.out.kid (bZ iH.out)) (by omega) A' c' w2 (kC.out.kids w2 (fun k hk _=>hb2.block k hk)) kC.out.cap);rw[hs]at lW
     have QN:=hide (show∀w3,Below w2.heap.size w2 w3→DI D en m1 b bs bf ba bn bg pos x (some eB) c W (gq (st,[]) (pos+1) (x.f3.take (i+1))) (pos+1+(aM (x.f3.take (i+1))).length) (p+s) w3 from fun w3 h3=>by
      have hq3:=hq2.below h3
      have e1:gq (st,[]) (pos+1) (x.f3.take (i+1))=gq (st,[]) (pos+1) (x.f3.take i):=by
       rw[bJ iH.out,xG,if_neg (fun e=>by have:=af2.out.1 e;cases this)]
      rw[e1];exact⟨hq3.fin,hq3.fr,hq3.bx,hq3.b3,Oz⟩)
     refine lW.out.mono ?_;rintro e w3 ⟨rfl,h3⟩;have Q2:=hide (QN.out w3 h3);clear h3 hq2 hb2 hs hpp hlen1 hs0 zR hwb hbb k0 k1 k2 k3;go_wp2;exact vS
  ·obtain rfl:i=n:=aG
   refine FW ?_;intro hq e0 eg n0 n1 n2;have n3:wr.cell? ⟨bn,3,none⟩=some (.slice A x.f3.length c):=(aj hq.b3.n 3).trans rfl;have hbw:Below D w0 wr:=sV.out.trans (hq.fr.below Af.out (by rintro k (rfl|rfl);exact tF.out _ (.inl rfl);exact tF.out _ (.inr (.inr (.inr (.inr (.inr (.inr HBM.out))))))));have hgr:=uG (x.f3) (st,[]) (pos+1);refine yT ?_;intro hbd g1 g2 g3 g4 g5;have HC:=hide (HK.out A c wr m1 _ _ pos hbw HRX.out hq.fin hbd.p0 ⟨aG,aG,aG,aG⟩);exact OY
end Go.Proofs.YtldgmneijipbjaaGreatDoor.H
end
