import Derived.Test.YtldgmneijipbjaaGreatDoorBQ3
import Derived.Test.YtldgmneijipbjaaGreatDoorBF0
import Derived.Test.YtldgmneijipbjaaGreatDoorBMac
set_option linter.unusedVariables false
set_option linter.unusedSimpArgs false
set_option maxRecDepth 100000
set_option maxHeartbeats 16000000
namespace Go.Proofs.YtldgmneijipbjaaGreatDoor.H
open Go.RowKit Go.Shelf Go.Maps Go.WideMaps Go.Proofs.YtldgmneijipbjaaGreatDoorW.PrintWords Go.Proofs.YtldgmneijipbjaaGreatDoorW.PrintLast Go.Proofs.YtldgmneijipbjaaGreatDoorW.PrintMore
open PScopeOwn
theorem Iz {D:Nat}{w:World}{m:RM}{s:RS}(h:RF D w m s)(name:ByteArray)(p:Int)(hn:s.aN.length≤1099511627776)(hun:s.uses.length≤1099511627776):
  Calls Tryz.prog 101 #[.pointer (some ⟨m.g,0,none⟩),.string name,.int .i64 p] w fun r w'=>r= .returned (.tuple #[])∧Rk D m (s.kW name p) w w':=by
 have HT:=hide (xU h name hn);have H:=hide h;refine WZ ?_;intro Af;have Oc:=hide hun
 cases ht:bO s.aN name with
 |none=>
  rw[show s.kW name p=s.fail p 91 from by unfold RS.kW;rw[ht]];have Jv:=hide ht;clear h ht;go_enter Tryz.func101,Tryz.ntmps101;go_wp2_with (go_at_call 97;refine Aside0.out ?_);refine⟨?_⟩;refine HT.out.mono ?_;rintro e w2 ⟨i,rfl,hix,hb⟩;obtain rfl:=zf hix Jv.out;have HB:=hide hb;clear hix hb;go_wp2_with (go_at_call 98;refine(jg (H.out.below HB.out) p 91).mono ?_;rintro e w3 ⟨rfl,h3,h4⟩;have HQ:=hide (And.intro h3 h4);clear h3 h4);exact JZ
 |some t=>
  obtain⟨tn,tk,tp,ti,tc⟩:=t;have qU:s.kW name p=if tk≠46∧tk≠42∧tk≠61 then s.fail p 91 else {s with uses:=s.uses++[⟨p,uE ⟨tn,tk,tp,ti,tc⟩,tp,name,true⟩]}:=by unfold RS.kW;rw[ht]
  rw[qU];have Jv:=hide ht;obtain⟨A,n,c,Sy⟩:∃A n c,m.vt= .slice A n c:=by obtain⟨A,c,e,-⟩:=Kd.bL h.vt;exact⟨_,_,_,e⟩
  have Yr:=hide Sy;clear h ht Sy qU;by_cases h46:tk=46
  ·subst h46
   exact ajK
  by_cases lV:tk=42
  ·subst lV
   exact ajK
  by_cases vP:tk=61
  ·subst vP
   rw[if_neg qo];go_enter Tryz.func101,Tryz.ntmps101;go_wp2_with (go_at_call 97;refine Aside0.out ?_);refine⟨?_⟩;refine HT.out.mono ?_;rintro e w2 ⟨i,rfl,hix,hb⟩;obtain⟨k,rfl,hk⟩:=qY hix Jv.out;have hf2:=H.out.below hb;have HF:=hide hf2;obtain⟨hC,hln⟩:=hf2.C_t Yr.out;obtain⟨ad,rfl,k0,k1,k2,k3,k4⟩:=Ob hC hk hln;simp only at k0 k1 k2 k3 k4;refine W_ ?_;intro hkn hk0 c0;have HK:=hide hk;have HLN:=hide hln;have HB:=hide hb;have HD:=hide (show D≤w2.heap.size from Nat.le_trans Af.out hb.size);clear hix hb hk hf2 hC hln
   have HS:=hide (fun(W:World) (hb:Below w2.heap.size w2 W)=>show W.cell? ⟨m.g,1,none⟩=some (m.vu)∧W.cell? ⟨m.g,0,none⟩=some (.slice (some ad) n c)∧W.cell? ⟨(ad.add (k*5)).block,(ad.add (k*5)).off+2,none⟩=some (.int .i64 tp)from by
    obtain⟨hC,hnn⟩:=(HF.out.below hb).C_t Yr.out;obtain⟨JB,e,k0,k1,k2,k3,k4⟩:=Ob hC HK.out hnn
    cases e
    exact⟨(aj ((hb.block _ (ay HF.out.blk)).trans HF.out.blk) 1).trans rfl,by rw[←Yr.out];exact(aj ((hb.block _ (ay HF.out.blk)).trans HF.out.blk) 0).trans rfl,k2⟩)
   go_wp2;clear c0 k0 k1 k2 k3 k4;have hb0:Below w2.heap.size w2 w2.drew:=bq (Below.refl _ _);refine bX (n:=22) (S:=fun w'=>w'.cell? ⟨m.g,1,none⟩=some (m.vu)∧w'.cell? ⟨m.g,0,none⟩=some (.slice (some ad) n c)∧w'.cell? ⟨(ad.add (k*5)).block,(ad.add (k*5)).off+2,none⟩=some (.int .i64 tp)) (ds:=[18,21]) #[false,false,false,false,false,false,false,false,false,false,false,false,false,false,false,false,false,false,false,false,false,false] dL rfl rfl ⟨(HS.out _ hb0).1,(HS.out _ hb0).2.1,(HS.out _ hb0).2.2⟩ (fun hHeld=>?_);obtain⟨we,hwd⟩:∃wd,wd=w2.drew:=⟨_,rfl⟩;rw[←hwd]at hHeld⊢;have E0:=hide (show Below w2.heap.size w2 we from gX);clear hwd hb0;refine pv 0 58 ?_;refine pv 1 59 ?_;refine pv 2 60 ?_;refine pv 3 61 ?_;refine pv 5 63 ?_;refine pv 6 64 ?_;refine pv 7 65 ?_;refine pv 8 66 ?_;refine pv 9 67 ?_;refine pv 11 69 ?_;refine pv 15 73 ?_;refine tv 4 62 hHeld ?_;refine tv 10 68 hHeld ?_;refine pv 12 70 ?_;refine pv 13 71 ?_;refine tv 14 72 hHeld ?_;refine pv 16 74 ?_;refine iw (i:=17) (N:=some 75) #[true,true,true,true,true,true,true,true,true,true,true,true,true,true,true,true,true,true,false,false,false,false] rfl rfl dL wN (fun K hK=>?_);refine gW (w1:=?_) (v:=?_) Nr rfl ?_ ?_;rotate_left 2
   ·exact Xt
   have E1:=hide (E0.out.trans ((au (Below.refl we.heap.size we) (.cells #[.int .i64 p,.int .i64 4,.int .i64 tp,.string name,.bool true] 37)).mono E0.out.size));refine hK.out _ _ ⟨(HS.out _ E1.out).1,(HS.out _ E1.out).2.1,(HS.out _ E1.out).2.2⟩ (fun hHeld=>?_);clear hK K;refine cK (a':=?_) ?_ ?_;rotate_left
   ·show Act.put _ (some 75) _=_
    exact aad
   refine eF (i:=18) (N:=some 76) #[true,true,true,true,true,true,true,true,true,true,true,true,true,true,true,true,true,true,true,false,false,false] rfl rfl dL wN (fun K hK=>?_);refine Kd.cZ K5 (w0:=we) D Nr (.tmp 62) (.tmp 75) 26 37 xH 48 rfl Tryz.underlying26 jZ rfl wN aG m.vu (_:List (List Value)) (bV.cs (⟨p,4,tp,name,true⟩:bV)) [.int .i64 p,.int .i64 4,.int .i64 tp,.string name,.bool true] (fun k=>D≤k) (fun _=>False) rfl rfl ⟨rfl,rfl,eU⟩ (fun _ hk=>hk.elim) (fun k hk=>Nat.le_trans HD.out (Nat.le_trans E0.out.size hk)) (Kd.bS HF.out.vu E0.out) (Below.refl _ _) (Nat.le_trans HD.out E0.out.size) jI ?_;intro v1 w6 h1 h2 h3 h4;obtain⟨A9,c9,rfl,-,-⟩:=Kd.bL h1;refine Xj ?_;clear h1 h4;intro F1 F3 F4 f6 e6;clear h2 h3;refine hK.out _ _ ?_;clear hK K;refine cK (a':=?_) ?_ ?_;rotate_left
   ·show Act.put _ (some 76) _=_
    exact aad
   refine pv 19 77 ?_;refine pv 20 78 ?_;refine eF (i:=21) (N:=none) #[true,true,true,true,true,true,true,true,true,true,true,true,true,true,true,true,true,true,true,true,true,true] rfl rfl dL wN (fun K hK=>?_);refine gy (w1:=?_) Nr rfl ?_ ?_;rotate_left
   ·go_simp
    rfl
   refine hK.out _ _ ?_;clear hK K;refine dP dL ?_;go_wp2;go_end0;exact⟨rfl,Rk.shift HB.out (Rk.wJ (t:=(⟨p,4,tp,name,true⟩:bV)) HF.out (Below.refl _ _) E0.out F3.out F1.out F4.out)⟩
  rw[if_pos ⟨h46,lV,vP⟩];have q46:(tk != 46)=true:=by simpa using h46
  have q42:(tk != 42)=true:=by simpa using lV
  have q61:(tk != 61)=true:=by simpa using vP
  clear h46 lV vP;go_enter Tryz.func101,Tryz.ntmps101;go_wp2_with (go_at_call 97;refine Aside0.out ?_);refine⟨?_⟩;refine HT.out.mono ?_;rintro e w2 ⟨i,rfl,hix,hb⟩;obtain⟨k,rfl,hk⟩:=qY hix Jv.out;have hf2:=H.out.below hb;have HF:=hide hf2;obtain⟨hC,hln⟩:=hf2.C_t Yr.out;obtain⟨ad,rfl,k0,k1,k2,k3,k4⟩:=Ob hC hk hln;simp only at k0 k1 k2 k3 k4;refine W_ ?_;intro hkn hk0 c0;have HK:=hide hk;have HLN:=hide hln;have HB:=hide hb;have HD:=hide (show D≤w2.heap.size from Nat.le_trans Af.out hb.size);clear hix hb hk hf2 hC hln;go_wp2_with (go_at_call 98;refine(jg HF.out p 91).mono ?_;rintro e w3 ⟨rfl,h3,h4⟩;have HQ:=hide (And.intro h3 h4);clear h3 h4);exact JZ
theorem abV (x:Tr)(hf:Fit x)(hb:(flat x).length≤1099511627776)(A:Option Addr)(c:Nat)(w:World)(hk:Kd.C KT w A x.f3.length x.f3)(hc:x.f3.length≤c):Calls Tryz.prog 12 #[nd x A c] w (Qh w (sz x)):=mY x hf hb A c w hk hc
theorem Sz (l:List kF)(j:Nat)(x:kF)(n:ByteArray)(h:l[j]?=some x):yQ (l.take (j+1)) n=(yQ (l.take j) n||decide (x.name=n)):=by
 rw[bJ h];unfold yQ;rw[List.any_append];simp
structure HI (D:Nat)(m:RM)(s:RS)(kE:Nat)(p0:Int)(l:List Tr)(w:World)(i:Nat)(p:Int)(wr:World):Prop where
 q:Rk D m (dS kE s p0 (l.take i)) w wr
 p:p=p0+(aM (l.take i)).length
theorem Ey (kE:Nat)(y:Tr):∀(l:List Tr) (s:RS) (p:Int),dS kE s p (l++[y])=mD (dS kE s p l) y (p+(aM l).length) kE
 |[],s,p=>by simp[dS,aM]
 |x::l,s,p=>by
  rw[List.cons_append,dS,Ey kE y l,dS,aM,List.length_append]
  congr 1
  unfold sz;omega
theorem SA (s:RS)(x:Tr)(p:Int)(kE:Nat):(mD s x p kE).aT.length≤s.aT.length+1∧s.aT.length≤(mD s x p kE).aT.length∧(mD s x p kE).uses=s.uses∧(mD s x p kE).aN=s.aN∧(mD s x p kE).ex=s.ex:=by
 unfold mD
 split
 ·split
  ·have:=Iu s p 90;rw[this.2.2.2.1,this.2.2.1,this.2.1,this.1];simp
  ·simp
 ·simp
theorem xW (kE:Nat):∀(l:List Tr) (s:RS) (p:Int),(dS kE s p l).aT.length≤s.aT.length+l.length∧s.aT.length≤(dS kE s p l).aT.length∧(dS kE s p l).uses=s.uses∧(dS kE s p l).aN=s.aN∧(dS kE s p l).ex=s.ex
 |[],s,p=>by simp[dS]
 |x::l,s,p=>by
  have h1:=SA s x p kE;have h2:=xW kE l (mD s x p kE) (p+sz x);rw[dS,List.length_cons];refine⟨aG,aG,by rw[h2.2.2.1,h1.2.2.1],by rw[h2.2.2.2.1,h1.2.2.2.1],by rw[h2.2.2.2.2,h1.2.2.2.2]⟩
theorem Ez {D:Nat}{w0 w:World}{m:RM}{s:RS}(h:RF D w m s)(hb:Below D w0 w)(l:List Tr)(hf:∀y,y∈l→Fit y)(A:Option Addr)(c:Nat)(hr:Kd.F KT w0 (fun k=>k<D) A l.length l)(p0:Int)(kE:Nat)(hp0:0≤p0)(hp1:p0+(aM l).length≤1099511627776)(hll:s.aT.length+l.length≤1099511627776)(hfl:kE≤s.aT.length):
  Calls Tryz.prog 103 #[.pointer (some ⟨m.g,0,none⟩),.slice A l.length c,.int .i64 p0,.int .i64 (kE:Nat)] w fun r w'=>r= .returned (.tuple #[])∧Rk D m (dS kE s p0 l) w w':=by
 obtain⟨n,hn⟩:∃n,l.length=n:=⟨_,rfl⟩;have H0:=hide h;have HB:=hide hb;have HF:=hide hf;have HR:=hide (show Ap w0 (fun k=>k<D) ⟨0,⟨#[]⟩,0,l⟩ A l.length from⟨hr,Nat.le_refl _⟩);have HN:=hide hn;have qm:=hide hfl;have HP1:=hide hp1;have Q0:=hide (show HI D m s kE p0 l w 0 p0 w from⟨⟨⟨m,by simpa [dS]using h,RM.Up.refl _ _⟩,Fr.refl _ _⟩,Oe⟩);rw[hn]at hll⊢;have hle:n≤1099511627776:=aG;clear h hb hf hr hn hfl hp1;go_enter Tryz.func103,Tryz.ntmps103;go_wp2;go_loopg [8,2] (n+1) (fun gk v8 v2 wr=>∃(i:Nat) (p:Int),i≤n∧n-i<gk∧v8= .int .i64 i∧v2= .int .i64 p∧Aside0 (HI D m s kE p0 l w i p wr))
 case atStart=>exact⟨0,p0,Nat.zero_le _,aG,rfl,rfl,Q0⟩
 case round=>
  obtain⟨i,p,hi,lS,rfl,rfl,Q⟩:=hrel;clear Q0;by_cases hlt:i<n
  ·have eY:(i:Int)<(n:Int):=aG
   obtain⟨y,hy⟩:=eO (l:=l) (i:=i) mV;obtain⟨ad,A',c',rfl,dR,hcells⟩:=HR.out.kid hy;have hbw:=Q.out.q.bR H0.out HB.out;obtain⟨k0,k1,k2,k3⟩:=hcells wr (fun k hk=>hbw.block k hk);obtain⟨m1,hf1,hu1⟩:=Q.out.q.fin;obtain⟨s1,hs1⟩:∃s1,dS kE s p0 (l.take i)=s1:=⟨_,rfl⟩;rw[hs1]at hf1;have hlen1:=xW kE (l.take i) s p0;rw[hs1]at hlen1;have htk:(l.take i).length=i:=by rw[List.length_take,HN.out];omega
   have htl:=take_len (x:=⟨0,⟨#[]⟩,0,l⟩) hy;have ajL:=bC ⟨0,⟨#[]⟩,0,l⟩;simp only at htl ajL;have hpp:=Q.out.p;have hp1:=HP1.out;refine y5 ?_;intro wb hwb hbb hxb;have HFB:=hide (hf1.below hbb);have HLE:=hide (show s1.aT.length≤1099511627776∧s1.aT.length<1099511627776∧kE≤s1.aT.length from⟨aG,aG,Nat.le_trans qm.out hlen1.2.1⟩);have HXB:=hide hxb;have iH:=hide hy;have kC:=hide dR;have rZ:=hide hu1;have HBB:=hide hbb;have HB2:=hide (hf1.bR hbw (Fr.of_below hbb));have hnx:¬m1.own wr.heap.size:=fun k=>by have:=hf1.hi _ k;omega
   have jL:=hide hnx;obtain⟨q,hq⟩:∃q,sz y=q:=⟨_,rfl⟩;have hq0:0≤q∧q≤(flat y).length:=by rw[←hq];unfold sz;omega
   have hws:wrap64 (p+q)=p+q:=zy;have hyl:(flat y).length≤1099511627776:=aG;obtain⟨s2,hs2⟩:∃s2,mD s1 y p kE=s2:=⟨_,rfl⟩;have HS2:=hide hs2;have lW:=hide (fun(w2:World) (hq2:Rk D m1 s2 wb w2)=>abV y (HF.out y (List.mem_of_getElem? iH.out)) hyl A' c' w2 (kC.out.kids w2 (fun k hk _=>(hq2.bR HFB.out HB2.out).block k hk)) kC.out.cap);rw[hq]at lW
   have QN:=hide (show∀w2 w3,Rk D m1 s2 wb w2→Below w2.heap.size w2 w3→HI D m s kE p0 l w (i+1) (p+q) w3 from fun w2 w3 hq2 h3=>⟨by
    rw[bJ iH.out,Ey,←hpp,hs1,hs2];exact(Rk.trans hu1 (Q.out.q.fr.more hbb) hq2).more h3,by rw[bJ iH.out,gU,hq,hpp];omega⟩)
   have HSC:=hide (fun(w2:World) (hq2:Rk D m1 s2 wb w2)=>show w2.cell? ⟨wr.heap.size,0,none⟩=some (.int .i64 y.f0)∧w2.cell? ⟨wr.heap.size,1,none⟩=some (.string y.f1)∧w2.cell? ⟨wr.heap.size,2,none⟩=some (.int .i64 y.f2)∧w2.cell? ⟨wr.heap.size,3,none⟩=some (.slice A' y.f3.length c')from by
    have hx2:=(hq2.fr.block _ (ay hxb) hnx).trans hxb;exact⟨(aj hx2 0).trans rfl,(aj hx2 1).trans rfl,(aj hx2 2).trans rfl,(aj hx2 3).trans rfl⟩)
   refine X9 ?_;intro b0 b1 b2 b3;have HUG:=hide hu1.g;obtain⟨g,hg⟩:∃g,m.g=g:=⟨_,rfl⟩;have hgg:m1.g=g:=hu1.g.trans hg;clear hy dR hcells hbw hf1 hu1 hlen1 htk htl ajL hpp hp1 hbb hxb hnx hq hq0 hs1 hs2 hyl;unfold nd at lW;rw[hg];clear hg;subst hgg;obtain⟨wo,hwo⟩:∃wo,wo=wr:=⟨wr,rfl⟩;subst hwo;by_cases hk:y.f0=40
   ·refine Gn ?_
    clear b0;intro b0 HHL B L cl Dt HL hLb hfL HKD;clear hk;go_wp2;have R0:=hide (show Below wb.heap.size wb wb from Below.refl _ _);clear hwb b0 b1 b2 b3 k0 k1 k2 k3;go_loopg [11,10] (L+1) (fun gj v11 v10 wr=>∃(t:Nat) (th:Bool),kE≤t∧t≤L∧L-t<gj∧v11= .int .i64 (t:Int)∧v10= .bool th∧Aside0 (yQ ((s1.aT.drop kE).take (t-kE)) y.f1=th)∧Aside0 (Below wb.heap.size wb wr))
    case atStart=>exact⟨kE,false,Nat.le_refl _,hfL,aG,rfl,rfl,hide (by rw[Nat.sub_self];rfl),R0⟩
    case round=>
     obtain⟨t,th,hft,ht,hgj,rfl,rfl,Md,RB⟩:=hrel;obtain⟨wq,hwq⟩:∃wq,wq=wr:=⟨wr,rfl⟩;subst hwq;clear R0;refine VF ?_;intro Oq CP AO c2;by_cases hlj:t<L
     ·exact agC
     ·have htL:t=L:=aG
      have hfin:yQ (s1.aT.drop kE) y.f1=th:=by
       exact Un
      refine Da ?_;intro abX Ov hnlt;clear hfin
      cases th with
      |true=>
       exact V5
      |false=>
       have HS:=hide (fun(W:World) (hb:Below wq.heap.size wq W)=>show W.cell? ⟨m1.g,2,none⟩=some (.slice B L cl)∧W.cell? ⟨wo.heap.size,0,none⟩=some (.int .i64 40)∧W.cell? ⟨wo.heap.size,1,none⟩=some (.string y.f1)∧W.cell? ⟨wo.heap.size,2,none⟩=some (.int .i64 y.f2)from⟨zu,((aj ((hb.block _ (ay AO.out)).trans AO.out) 0).trans rfl).trans (congrArg (fun k=>some (Value.int .i64 k)) HKD.out),(aj ((hb.block _ (ay AO.out)).trans AO.out) 1).trans rfl,(aj ((hb.block _ (ay AO.out)).trans AO.out) 2).trans rfl⟩);refine F5 ?_;intro HDQ;obtain⟨zn,hzn⟩:∃z,(y.f2==0)=z:=⟨_,rfl⟩;have HZN:=hide hzn;clear Oq;go_wp2;clear c2 hnlt;have hb0:Below wq.heap.size wq wq.drew:=bq (Below.refl _ _);refine bX (n:=27) (S:=fun w'=>w'.cell? ⟨m1.g,2,none⟩=some (.slice B L cl)∧w'.cell? ⟨wo.heap.size,0,none⟩=some (.int .i64 40)∧w'.cell? ⟨wo.heap.size,1,none⟩=some (.string y.f1)∧w'.cell? ⟨wo.heap.size,2,none⟩=some (.int .i64 y.f2)) (ds:=[23,26]) #[false,false,false,false,false,false,false,false,false,false,false,false,false,false,false,false,false,false,false,false,false,false,false,false,false,false,false] dL rfl rfl ⟨(HS.out _ hb0).1,(HS.out _ hb0).2.1,(HS.out _ hb0).2.2.1,(HS.out _ hb0).2.2.2⟩ (fun hHeld=>?_);obtain⟨we,hwd⟩:∃wd,wd=wq.drew:=⟨_,rfl⟩;rw[←hwd]at hHeld⊢;have E0:=hide (show Below wq.heap.size wq we from gX);clear hwd hb0;refine pv 0 63 ?_;refine pv 1 64 ?_;refine pv 2 65 ?_;refine pv 3 66 ?_;refine pv 5 68 ?_;refine pv 7 70 ?_;refine pv 8 71 ?_;refine tv 4 67 hHeld ?_;refine tv 6 69 hHeld ?_;refine tv 9 72 hHeld ?_;refine pv 10 73 ?_;refine pv 11 74 ?_;refine pv 12 75 ?_;refine tv 13 76 hHeld ?_;refine pv 14 77 ?_;refine pv 15 78 ?_;refine pv 16 79 ?_;refine tv 17 80 hHeld ?_;refine pv 18 81 ?_;refine pv 19 82 ?_;refine pv 20 83 ?_;refine pv 21 84 ?_;refine iw (i:=22) (N:=some 85) #[true,true,true,true,true,true,true,true,true,true,true,true,true,true,true,true,true,true,true,true,true,true,true,false,false,false,false] rfl rfl dL wN (fun K hK=>?_);refine gW (w1:=?_) (v:=?_) Nr rfl ?_ ?_;rotate_left 2
       ·exact Xt
       have E1:=hide (E0.out.trans ((au (Below.refl we.heap.size we) (.cells #[.string y.f1,.int .i64 p,.bool zn] 104)).mono E0.out.size));refine hK.out _ _ ⟨(HS.out _ E1.out).1,(HS.out _ E1.out).2.1,(HS.out _ E1.out).2.2.1,(HS.out _ E1.out).2.2.2⟩ (fun hHeld=>?_);clear hK K;refine cK (a':=?_) ?_ ?_;rotate_left
       ·show Act.put _ (some 85) _=_
        exact aad
       refine eF (i:=23) (N:=some 86) #[true,true,true,true,true,true,true,true,true,true,true,true,true,true,true,true,true,true,true,true,true,true,true,true,false,false,false] rfl rfl dL wN (fun K hK=>?_);refine Kd.cZ K3 (w0:=we) D Nr (.tmp 67) (.tmp 85) 60 104 (.agg #[.string ⟨#[]⟩,.int .i64 0,.bool false]) 32 rfl Tryz.underlying60 Ir rfl wN aG m1.vl (s1.aT.map kF.cs) (kF.cs ⟨y.f1,p,zn⟩) [.string y.f1,.int .i64 p,.bool zn] (fun k=>D≤k) (fun _=>False) (by rw[Dt.out];rfl) rfl ⟨rfl,rfl,eU⟩ (fun _ hk=>hk.elim) (fun k hk=>Nat.le_trans HDQ.out (Nat.le_trans E0.out.size hk)) (Kd.bS CP.out.vl E0.out) (Below.refl _ _) (Nat.le_trans HDQ.out E0.out.size) iC ?_;intro v1 w6 h1 h2 h3 h4;obtain⟨A9,c9,rfl,-,-⟩:=Kd.bL h1;refine Og ?_;clear h1 h4;intro F1 F3 F4 f6 e6;clear h2 h3;refine hK.out _ _ ?_;clear hK K;refine cK (a':=?_) ?_ ?_;rotate_left
       ·show Act.put _ (some 86) _=_
        exact aad
       refine pv 24 87 ?_;refine pv 25 88 ?_;refine eF (i:=26) (N:=none) #[true,true,true,true,true,true,true,true,true,true,true,true,true,true,true,true,true,true,true,true,true,true,true,true,true,true,true] rfl rfl dL wN (fun K hK=>?_);refine gy (w1:=?_) Nr rfl ?_ ?_;rotate_left
       ·go_simp
        rfl
       refine hK.out _ _ ?_;clear hK K;refine dP dL ?_
       have hq2:∀w2,Rk D m1 {s1 with aT:=s1.aT++[⟨y.f1,p,zn⟩]} wq w2→Rk D m1 s2 wb w2:=fun w2 hk=>by
        have h2:=Ov.out;simp only[Bool.false_eq_true,if_false]at h2;rw[HKD.out]at h2;rw[h2];exact Rk.shift RB.out (by rw[show((40:Int)==13||((40:Int)==40&&y.f2==0))=zn from HZN.out];exact hk)
       refine Zh ?_;intro w2 hw2;have hmk:=Rk.N_ (t:=⟨y.f1,p,zn⟩) CP.out (Below.refl _ _) E0.out F3.out F1.out F4.out;rw[show s1.aT.length+[kF.cs ⟨y.f1,p,zn⟩].length=s1.aT.length+1 from rfl]at hmk;exact VR
   by_cases hk2:y.f0=41
   ·have hk4:=hk2
    clear hk hk2;have hk:=hk4;clear hk4;refine Gn ?_;clear b0;intro b0 HHL B L cl Dt HL hLb hfL HKD;clear hk;go_wp2;have R0:=hide (show Below wb.heap.size wb wb from Below.refl _ _);clear hwb b0 b1 b2 b3 k0 k1 k2 k3;go_loopg [11,10] (L+1) (fun gj v11 v10 wr=>∃(t:Nat) (th:Bool),kE≤t∧t≤L∧L-t<gj∧v11= .int .i64 (t:Int)∧v10= .bool th∧Aside0 (yQ ((s1.aT.drop kE).take (t-kE)) y.f1=th)∧Aside0 (Below wb.heap.size wb wr))
    case atStart=>exact⟨kE,false,Nat.le_refl _,hfL,aG,rfl,rfl,hide (by rw[Nat.sub_self];rfl),R0⟩
    case round=>
     obtain⟨t,th,hft,ht,hgj,rfl,rfl,Md,RB⟩:=hrel;obtain⟨wq,hwq⟩:∃wq,wq=wr:=⟨wr,rfl⟩;subst hwq;clear R0;refine VF ?_;intro Oq CP AO c2;by_cases hlj:t<L
     ·exact agC
     ·have htL:t=L:=aG
      have hfin:yQ (s1.aT.drop kE) y.f1=th:=by
       exact Un
      refine Da ?_;intro abX Ov hnlt;clear hfin
      cases th with
      |true=>
       exact V5
      |false=>
       have HS:=hide (fun(W:World) (hb:Below wq.heap.size wq W)=>show W.cell? ⟨m1.g,2,none⟩=some (.slice B L cl)∧W.cell? ⟨wo.heap.size,0,none⟩=some (.int .i64 41)∧W.cell? ⟨wo.heap.size,1,none⟩=some (.string y.f1)∧W.cell? ⟨wo.heap.size,2,none⟩=some (.int .i64 y.f2)from⟨zu,((aj ((hb.block _ (ay AO.out)).trans AO.out) 0).trans rfl).trans (congrArg (fun k=>some (Value.int .i64 k)) HKD.out),(aj ((hb.block _ (ay AO.out)).trans AO.out) 1).trans rfl,(aj ((hb.block _ (ay AO.out)).trans AO.out) 2).trans rfl⟩);refine F5 ?_;intro HDQ
       skip
       clear Oq;go_wp2;clear c2 hnlt;have hb0:Below wq.heap.size wq wq.drew:=bq (Below.refl _ _);refine bX (n:=27) (S:=fun w'=>w'.cell? ⟨m1.g,2,none⟩=some (.slice B L cl)∧w'.cell? ⟨wo.heap.size,0,none⟩=some (.int .i64 41)∧w'.cell? ⟨wo.heap.size,1,none⟩=some (.string y.f1)∧w'.cell? ⟨wo.heap.size,2,none⟩=some (.int .i64 y.f2)) (ds:=[23,26]) #[false,false,false,false,false,false,false,false,false,false,false,false,false,false,false,false,false,false,false,false,false,false,false,false,false,false,false] dL rfl rfl ⟨(HS.out _ hb0).1,(HS.out _ hb0).2.1,(HS.out _ hb0).2.2.1,(HS.out _ hb0).2.2.2⟩ (fun hHeld=>?_);obtain⟨we,hwd⟩:∃wd,wd=wq.drew:=⟨_,rfl⟩;rw[←hwd]at hHeld⊢;have E0:=hide (show Below wq.heap.size wq we from gX);clear hwd hb0;refine pv 0 63 ?_;refine pv 1 64 ?_;refine pv 2 65 ?_;refine pv 3 66 ?_;refine pv 5 68 ?_;refine pv 7 70 ?_;refine pv 8 71 ?_;refine tv 4 67 hHeld ?_;refine tv 6 69 hHeld ?_;refine tv 9 72 hHeld ?_;refine pv 10 73 ?_;refine pv 11 74 ?_;refine pv 12 75 ?_;refine tv 13 76 hHeld ?_;refine pv 14 77 ?_;refine pv 15 78 ?_;refine pu 16 79 ?_;refine pu 17 80 ?_;refine pu 18 81 ?_;refine pv 19 82 ?_;refine pv 20 83 ?_;refine pv 21 84 ?_;refine iw (i:=22) (N:=some 85) #[true,true,true,true,true,true,true,true,true,true,true,true,true,true,true,true,true,true,true,true,true,true,true,false,false,false,false] rfl rfl dL wN (fun K hK=>?_);refine gW (w1:=?_) (v:=?_) Nr rfl ?_ ?_;rotate_left 2
       ·exact Xt
       have E1:=hide (E0.out.trans ((au (Below.refl we.heap.size we) (.cells #[.string y.f1,.int .i64 p,.bool false] 104)).mono E0.out.size));refine hK.out _ _ ⟨(HS.out _ E1.out).1,(HS.out _ E1.out).2.1,(HS.out _ E1.out).2.2.1,(HS.out _ E1.out).2.2.2⟩ (fun hHeld=>?_);clear hK K;refine cK (a':=?_) ?_ ?_;rotate_left
       ·show Act.put _ (some 85) _=_
        exact aad
       refine eF (i:=23) (N:=some 86) #[true,true,true,true,true,true,true,true,true,true,true,true,true,true,true,true,true,true,true,true,true,true,true,true,false,false,false] rfl rfl dL wN (fun K hK=>?_);refine Kd.cZ K3 (w0:=we) D Nr (.tmp 67) (.tmp 85) 60 104 (.agg #[.string ⟨#[]⟩,.int .i64 0,.bool false]) 32 rfl Tryz.underlying60 Ir rfl wN aG m1.vl (s1.aT.map kF.cs) (kF.cs ⟨y.f1,p,false⟩) [.string y.f1,.int .i64 p,.bool false] (fun k=>D≤k) (fun _=>False) (by rw[Dt.out];rfl) rfl ⟨rfl,rfl,eU⟩ (fun _ hk=>hk.elim) (fun k hk=>Nat.le_trans HDQ.out (Nat.le_trans E0.out.size hk)) (Kd.bS CP.out.vl E0.out) (Below.refl _ _) (Nat.le_trans HDQ.out E0.out.size) iC ?_;intro v1 w6 h1 h2 h3 h4;obtain⟨A9,c9,rfl,-,-⟩:=Kd.bL h1;refine Og ?_;clear h1 h4;intro F1 F3 F4 f6 e6;clear h2 h3;refine hK.out _ _ ?_;clear hK K;refine cK (a':=?_) ?_ ?_;rotate_left
       ·show Act.put _ (some 86) _=_
        exact aad
       refine pv 24 87 ?_;refine pv 25 88 ?_;refine eF (i:=26) (N:=none) #[true,true,true,true,true,true,true,true,true,true,true,true,true,true,true,true,true,true,true,true,true,true,true,true,true,true,true] rfl rfl dL wN (fun K hK=>?_);refine gy (w1:=?_) Nr rfl ?_ ?_;rotate_left
       ·go_simp
        rfl
       refine hK.out _ _ ?_;clear hK K;refine dP dL ?_
       have hq2:∀w2,Rk D m1 {s1 with aT:=s1.aT++[⟨y.f1,p,false⟩]} wq w2→Rk D m1 s2 wb w2:=fun w2 hk=>by
        exact VO
       refine Zh ?_;intro w2 hw2;have hmk:=Rk.N_ (t:=⟨y.f1,p,false⟩) CP.out (Below.refl _ _) E0.out F3.out F1.out F4.out;rw[show s1.aT.length+[kF.cs ⟨y.f1,p,false⟩].length=s1.aT.length+1 from rfl]at hmk;exact VR
   by_cases hk3:y.f0=13
   ·have hk4:=hk3
    clear hk hk2 hk3;have hk:=hk4;clear hk4;refine Gn ?_;clear b0;intro b0 HHL B L cl Dt HL hLb hfL HKD;clear hk;go_wp2;have R0:=hide (show Below wb.heap.size wb wb from Below.refl _ _);clear hwb b0 b1 b2 b3 k0 k1 k2 k3;go_loopg [11,10] (L+1) (fun gj v11 v10 wr=>∃(t:Nat) (th:Bool),kE≤t∧t≤L∧L-t<gj∧v11= .int .i64 (t:Int)∧v10= .bool th∧Aside0 (yQ ((s1.aT.drop kE).take (t-kE)) y.f1=th)∧Aside0 (Below wb.heap.size wb wr))
    case atStart=>exact⟨kE,false,Nat.le_refl _,hfL,aG,rfl,rfl,hide (by rw[Nat.sub_self];rfl),R0⟩
    case round=>
     obtain⟨t,th,hft,ht,hgj,rfl,rfl,Md,RB⟩:=hrel;obtain⟨wq,hwq⟩:∃wq,wq=wr:=⟨wr,rfl⟩;subst hwq;clear R0;refine VF ?_;intro Oq CP AO c2;by_cases hlj:t<L
     ·exact agC
     ·have htL:t=L:=aG
      have hfin:yQ (s1.aT.drop kE) y.f1=th:=by
       exact Un
      refine Da ?_;intro abX Ov hnlt;clear hfin
      cases th with
      |true=>
       exact V5
      |false=>
       have HS:=hide (fun(W:World) (hb:Below wq.heap.size wq W)=>show W.cell? ⟨m1.g,2,none⟩=some (.slice B L cl)∧W.cell? ⟨wo.heap.size,0,none⟩=some (.int .i64 13)∧W.cell? ⟨wo.heap.size,1,none⟩=some (.string y.f1)∧W.cell? ⟨wo.heap.size,2,none⟩=some (.int .i64 y.f2)from⟨zu,((aj ((hb.block _ (ay AO.out)).trans AO.out) 0).trans rfl).trans (congrArg (fun k=>some (Value.int .i64 k)) HKD.out),(aj ((hb.block _ (ay AO.out)).trans AO.out) 1).trans rfl,(aj ((hb.block _ (ay AO.out)).trans AO.out) 2).trans rfl⟩);refine F5 ?_;intro HDQ
       skip
       clear Oq;go_wp2;clear c2 hnlt;have hb0:Below wq.heap.size wq wq.drew:=bq (Below.refl _ _);refine bX (n:=27) (S:=fun w'=>w'.cell? ⟨m1.g,2,none⟩=some (.slice B L cl)∧w'.cell? ⟨wo.heap.size,0,none⟩=some (.int .i64 13)∧w'.cell? ⟨wo.heap.size,1,none⟩=some (.string y.f1)∧w'.cell? ⟨wo.heap.size,2,none⟩=some (.int .i64 y.f2)) (ds:=[23,26]) #[false,false,false,false,false,false,false,false,false,false,false,false,false,false,false,false,false,false,false,false,false,false,false,false,false,false,false] dL rfl rfl ⟨(HS.out _ hb0).1,(HS.out _ hb0).2.1,(HS.out _ hb0).2.2.1,(HS.out _ hb0).2.2.2⟩ (fun hHeld=>?_);obtain⟨we,hwd⟩:∃wd,wd=wq.drew:=⟨_,rfl⟩;rw[←hwd]at hHeld⊢;have E0:=hide (show Below wq.heap.size wq we from gX);clear hwd hb0;refine pv 0 63 ?_;refine pv 1 64 ?_;refine pv 2 65 ?_;refine pv 3 66 ?_;refine pv 5 68 ?_;refine pv 7 70 ?_;refine pv 8 71 ?_;refine tv 4 67 hHeld ?_;refine tv 6 69 hHeld ?_;refine tv 9 72 hHeld ?_;refine pv 10 73 ?_;refine pv 11 74 ?_;refine pu 12 75 ?_;refine pu 13 76 ?_;refine pu 14 77 ?_;refine pu 15 78 ?_;refine pu 16 79 ?_;refine pu 17 80 ?_;refine pu 18 81 ?_;refine pu 19 82 ?_;refine pv 20 83 ?_;refine pv 21 84 ?_;refine iw (i:=22) (N:=some 85) #[true,true,true,true,true,true,true,true,true,true,true,true,true,true,true,true,true,true,true,true,true,true,true,false,false,false,false] rfl rfl dL wN (fun K hK=>?_);refine gW (w1:=?_) (v:=?_) Nr rfl ?_ ?_;rotate_left 2
       ·exact Xt
       have E1:=hide (E0.out.trans ((au (Below.refl we.heap.size we) (.cells #[.string y.f1,.int .i64 p,.bool true] 104)).mono E0.out.size));refine hK.out _ _ ⟨(HS.out _ E1.out).1,(HS.out _ E1.out).2.1,(HS.out _ E1.out).2.2.1,(HS.out _ E1.out).2.2.2⟩ (fun hHeld=>?_);clear hK K;refine cK (a':=?_) ?_ ?_;rotate_left
       ·show Act.put _ (some 85) _=_
        exact aad
       refine eF (i:=23) (N:=some 86) #[true,true,true,true,true,true,true,true,true,true,true,true,true,true,true,true,true,true,true,true,true,true,true,true,false,false,false] rfl rfl dL wN (fun K hK=>?_);refine Kd.cZ K3 (w0:=we) D Nr (.tmp 67) (.tmp 85) 60 104 (.agg #[.string ⟨#[]⟩,.int .i64 0,.bool false]) 32 rfl Tryz.underlying60 Ir rfl wN aG m1.vl (s1.aT.map kF.cs) (kF.cs ⟨y.f1,p,true⟩) [.string y.f1,.int .i64 p,.bool true] (fun k=>D≤k) (fun _=>False) (by rw[Dt.out];rfl) rfl ⟨rfl,rfl,eU⟩ (fun _ hk=>hk.elim) (fun k hk=>Nat.le_trans HDQ.out (Nat.le_trans E0.out.size hk)) (Kd.bS CP.out.vl E0.out) (Below.refl _ _) (Nat.le_trans HDQ.out E0.out.size) iC ?_;intro v1 w6 h1 h2 h3 h4;obtain⟨A9,c9,rfl,-,-⟩:=Kd.bL h1;refine Og ?_;clear h1 h4;intro F1 F3 F4 f6 e6;clear h2 h3;refine hK.out _ _ ?_;clear hK K;refine cK (a':=?_) ?_ ?_;rotate_left
       ·show Act.put _ (some 86) _=_
        exact aad
       refine pv 24 87 ?_;refine pv 25 88 ?_;refine eF (i:=26) (N:=none) #[true,true,true,true,true,true,true,true,true,true,true,true,true,true,true,true,true,true,true,true,true,true,true,true,true,true,true] rfl rfl dL wN (fun K hK=>?_);refine gy (w1:=?_) Nr rfl ?_ ?_;rotate_left
       ·go_simp
        rfl
       refine hK.out _ _ ?_;clear hK K;refine dP dL ?_
       have hq2:∀w2,Rk D m1 {s1 with aT:=s1.aT++[⟨y.f1,p,true⟩]} wq w2→Rk D m1 s2 wb w2:=fun w2 hk=>by
        exact VO
       refine Zh ?_;intro w2 hw2;have hmk:=Rk.N_ (t:=⟨y.f1,p,true⟩) CP.out (Below.refl _ _) E0.out F3.out F1.out F4.out;rw[show s1.aT.length+[kF.cs ⟨y.f1,p,true⟩].length=s1.aT.length+1 from rfl]at hmk;exact VR
   have q40:(y.f0==40)=false:=MU;have WS:(y.f0==41)=false:=by simpa using hk2
   have q13:(y.f0==13)=false:=by simpa using hk3
   have hq2:Rk D m1 s2 wb wb:=by
    have e:s2=s1:=by
     rw[←HS2.out];unfold mD;rw[if_neg (by unfold holds;rw[q40,WS,q13];decide)]
    rw[e];exact Rk.of_below HFB.out (Below.refl _ _)
   have Mf:=hide hq2;clear hk hk2 hk3 hq2;go_wp2_with (go_at_call 12;refine(lW.out wb Mf.out).mono ?_;rintro e w3 ⟨rfl,h3⟩;have Q2:=hide (QN.out wb w3 Mf.out h3);clear h3);rw[rZ.out.g];exact YB
  ·obtain rfl:i=n:=aG
   go_wp2;go_end0;have hq:=Q.out.q;rw[List.take_of_length_le Np]at hq;exact⟨rfl,hq⟩
end Go.Proofs.YtldgmneijipbjaaGreatDoor.H
