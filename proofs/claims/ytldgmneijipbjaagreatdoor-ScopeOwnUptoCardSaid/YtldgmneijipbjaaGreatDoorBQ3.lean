import Derived.Test.YtldgmneijipbjaaGreatDoorBQ1
import Derived.Test.YtldgmneijipbjaaGreatDoorBF0
import Derived.BigGuardPart
import Derived.Test.YtldgmneijipbjaaGreatDoorBMac
set_option linter.unusedVariables false
set_option linter.unusedSimpArgs false
set_option maxRecDepth 100000
set_option maxHeartbeats 16000000
namespace Go.Proofs.YtldgmneijipbjaaGreatDoor.H
open Go.RowKit Go.Shelf Go.Maps Go.WideMaps Go.Proofs.YtldgmneijipbjaaGreatDoorW.PrintWords Go.Proofs.YtldgmneijipbjaaGreatDoorW.PrintLast Go.Proofs.YtldgmneijipbjaaGreatDoorW.PrintMore
open PScopeOwn
theorem DT (w:World):Calls Tryz.prog 119 #[] w fun e w'=>∃A c,e= .returned (.slice A blt.length c)∧blt.length≤c∧Kd.C Kd.string w' A blt.length blt∧Below w.heap.size w w':=by
 refine(jS.calls blt w rfl).mono ?_;exact UH
theorem Ob {w:World}{A:Option Addr}{n:Nat}{l:List dA}(h:Kd.C K5 w A n (l.map dA.cs)){k:Nat}{t:dA}(ht:l[k]?=some t)(hn:l.length=n):∃ad,A=some ad∧w.cell? (ad.add (k*5))=some (.string t.name)∧w.cell? ⟨(ad.add (k*5)).block,(ad.add (k*5)).off+1,none⟩=some (.int .i64 t.kind)∧w.cell? ⟨(ad.add (k*5)).block,(ad.add (k*5)).off+2,none⟩=some (.int .i64 t.pos)∧w.cell? ⟨(ad.add (k*5)).block,(ad.add (k*5)).off+3,none⟩=some (.int .i64 t.item)∧w.cell? ⟨(ad.add (k*5)).block,(ad.add (k*5)).off+4,none⟩=some (.bool t.cst):=by
 have hk:=(List.getElem?_eq_some_iff.1 ht).1;obtain⟨ad,e,hc⟩:=y9 h (i:=k) (x:=t.cs) OJ aG;exact⟨ad,e,hc 0 _ rfl,Bo,Ns,yS,by rw[←lF _ _ 4 aG];exact hc 4 _ rfl⟩
theorem Yq {w:World}{A:Option Addr}{n:Nat}{l:List kF}(h:Kd.C K3 w A n (l.map kF.cs)){k:Nat}{t:kF}(ht:l[k]?=some t)(hn:l.length=n):∃ad,A=some ad∧w.cell? (ad.add (k*3))=some (.string t.name)∧w.cell? ⟨(ad.add (k*3)).block,(ad.add (k*3)).off+1,none⟩=some (.int .i64 t.pos)∧w.cell? ⟨(ad.add (k*3)).block,(ad.add (k*3)).off+2,none⟩=some (.bool t.free):=by
 have hk:=(List.getElem?_eq_some_iff.1 ht).1;obtain⟨ad,e,hc⟩:=y9 h (i:=k) (x:=t.cs) OJ aG;exact⟨ad,e,hc 0 _ rfl,Bo,Ns⟩
theorem RF.C_t {D:Nat}{w:World}{m:RM}{s:RS}(h:RF D w m s){A:Option Addr}{n c:Nat}(e:m.vt= .slice A n c):Kd.C K5 w A n (s.aN.map dA.cs)∧s.aN.length=n:=by
 have h1:=h.vt;exact adI
theorem RF.C_l {D:Nat}{w:World}{m:RM}{s:RS}(h:RF D w m s){A:Option Addr}{n c:Nat}(e:m.vl= .slice A n c):Kd.C K3 w A n (s.aT.map kF.cs)∧s.aT.length=n:=by
 have h1:=h.vl;exact adI
theorem Lf {D:Nat}{w:World}{m:RM}{s:RS}(h:RF D w m s)(name:ByteArray)(p:Int)(b:Bool)(hn:s.aN.length≤1099511627776)(hun:s.uses.length≤1099511627776)(t:dA)(ht:bO s.aN name=some t):
  Calls Tryz.prog 104 #[.pointer (some ⟨m.g,0,none⟩),.string name,.int .i64 p,.bool b] w fun r w'=>r= .returned (.bool (s.je name p b).2)∧Rk D m (s.je name p b).1 w w':=by
 have HT:=hide (xU h name hn);have H:=hide h;have Jv:=hide ht;refine WZ ?_;intro Af;obtain⟨rs,hrs⟩:∃r,s.je name p b=r:=⟨_,rfl⟩;rw[hrs];have jo:=hide (show rs=({(if b=true∧t.kind=46 then s.fail p 91 else s)with uses:=s.uses++[⟨p,uE t,t.pos,name,false⟩]},!t.cst)from by rw[←hrs];unfold RS.je;rw[ht]);obtain⟨A,n,c,Sy⟩:∃A n c,m.vt= .slice A n c:=by obtain⟨A,c,e,-⟩:=Kd.bL h.vt;exact⟨_,_,_,e⟩
 have Yr:=hide Sy;have Oc:=hide hun;clear h ht hrs Sy;go_enter Tryz.func104,Tryz.ntmps104;go_wp2_with (go_at_call 97;refine Aside0.out ?_);refine⟨?_⟩;refine HT.out.mono ?_;rintro e w2 ⟨i,rfl,hix,hb⟩;obtain⟨k,rfl,hk⟩:=qY hix Jv.out;obtain⟨tn,tk,tp,ti,tc⟩:=t;have hf2:=H.out.below hb;obtain⟨hC,hln⟩:=hf2.C_t Yr.out;obtain⟨ad,rfl,k0,k1,k2,k3,k4⟩:=Ob hC hk hln;simp only at k0 k1 k2 k3 k4;refine W_ ?_;intro hkn hk0 c0;have HB:=hide hb;obtain⟨z61,vP⟩:∃z,(tk==61)=z:=⟨_,rfl⟩;obtain⟨z46,h46⟩:∃z,(tk==46)=z:=⟨_,rfl⟩;have hkk:uE ⟨tn,tk,tp,ti,tc⟩=if z61=true then 4 else 3:=by unfold uE;rw[←vP];simp
 have hcond:(b=true∧tk=46)↔(b&&z46)=true:=by rw[←h46];simp
 have HKK:=hide hkk;have Yt:=hide hcond;have HEX:=hide (show¬(z61=true∧z46=true)from by rintro⟨r1,r2⟩;rw[←vP]at r1;rw[←h46]at r2;simp at r1 r2;omega);clear hix hb hk hf2 hC hln hkk hcond
 cases z61 with
 |true=>
  cases z46 with
  |true=>exact absurd ⟨rfl,rfl⟩ HEX.out
  |false=>
   cases b with
   |true=>
    exact aes
   |false=>
    exact aes
 |false=>
  cases b with
  |false=>
   cases z46 with
   |true=>
    exact agu
   |false=>
    exact agu
  |true=>
   cases z46 with
   |true=>
    have hfb:=H.out.below (au HB.out (.cells #[.string tn,.int .i64 tk,.int .i64 tp,.int .i64 ti,.bool tc] 43));go_wp2_with (go_at_call 98;refine Aside0.out ?_);refine⟨?_⟩;refine(jg hfb p 91).mono ?_;rintro e W3 ⟨rfl,h5,h6⟩;have hbx:W3.heap[w2.heap.size]?=some (.cells #[.string tn,.int .i64 tk,.int .i64 tp,.int .i64 ti,.bool tc] 43 (0,0)):=(h6.block _ qo (fun e=>by have:=H.out.hi _ (.inl rfl);have:=HB.out.size;omega)).trans (aR w2 _);have hfr:Fr m.own w W3:=(Fr.of_below (au HB.out (.cells #[.string tn,.int .i64 tk,.int .i64 tp,.int .i64 ti,.bool tc] 43))).trans h6 (fun k e=> .inl (.inl e));have HF:=hide h5;have dI:=hide hbx;have Yn:=hide hfr;have HD:=hide (show D≤W3.heap.size from Nat.le_trans Af.out hfr.size);have HS:=hide (fun(W:World) (hb:Below W3.heap.size W3 W)=>show W.cell? ⟨m.g,1,none⟩=some (m.vu)∧W.cell? ⟨w2.heap.size,2,none⟩=some (.int .i64 tp)from⟨(aj ((hb.block _ (ay HF.out.blk)).trans HF.out.blk) 1).trans rfl,(aj ((hb.block _ (ay dI.out)).trans dI.out) 2).trans rfl⟩);have HU:=hide (show(s.fail p 91:RS).uses=s.uses from(Iu s p 91).2.2.1);clear hbx hfr c0 k0 k1 k2 k3 k4 vP h46 hfb h5 h6;go_wp2;have Oc:=hide (show(s.fail p 91).uses.length≤1099511627776 from by rw[HU.out];exact Oc.out);have hb0:Below W3.heap.size W3 W3.drew:=bq (Below.refl _ _);refine bX (n:=16) (S:=fun w'=>w'.cell? ⟨m.g,1,none⟩=some (m.vu)∧w'.cell? ⟨w2.heap.size,2,none⟩=some (.int .i64 tp)) (ds:=[12,15]) #[false,false,false,false,false,false,false,false,false,false,false,false,false,false,false,false] dL rfl rfl ⟨(HS.out _ hb0).1,(HS.out _ hb0).2⟩ (fun hHeld=>?_);obtain⟨we,hwd⟩:∃wd,wd=W3.drew:=⟨_,rfl⟩;rw[←hwd]at hHeld⊢;have E0:=hide (show Below W3.heap.size W3 we from gX);clear hwd hb0;refine pv 0 38 ?_;refine pv 1 39 ?_;refine pv 2 40 ?_;refine pv 3 41 ?_;refine pv 5 43 ?_;refine pv 6 44 ?_;refine pv 7 45 ?_;refine pv 9 47 ?_;refine tv 4 42 hHeld ?_;refine tv 8 46 hHeld ?_;refine pv 10 48 ?_;refine iw (i:=11) (N:=some 49) #[true,true,true,true,true,true,true,true,true,true,true,true,false,false,false,false] rfl rfl dL wN (fun K hK=>?_);refine gW (w1:=?_) (v:=?_) Nr rfl ?_ ?_;rotate_left 2
    ·exact Xt
    have E1:=hide (E0.out.trans ((au (Below.refl we.heap.size we) (.cells #[.int .i64 p,.int .i64 3,.int .i64 tp,.string name,.bool false] 37)).mono E0.out.size));refine hK.out _ _ ⟨(HS.out _ E1.out).1,(HS.out _ E1.out).2⟩ (fun hHeld=>?_);clear hK K;refine cK (a':=?_) ?_ ?_;rotate_left
    ·show Act.put _ (some 49) _=_
     exact aad
    refine eF (i:=12) (N:=some 50) #[true,true,true,true,true,true,true,true,true,true,true,true,true,false,false,false] rfl rfl dL wN (fun K hK=>?_);refine Kd.cZ K5 (w0:=we) D Nr (.tmp 42) (.tmp 49) 26 37 xH 48 rfl Tryz.underlying26 jZ rfl wN aG m.vu (_:List (List Value)) (bV.cs (⟨p,3,tp,name,false⟩:bV)) [.int .i64 p,.int .i64 3,.int .i64 tp,.string name,.bool false] (fun k=>D≤k) (fun _=>False) rfl rfl ⟨rfl,rfl,eU⟩ (fun _ hk=>hk.elim) (fun k hk=>Nat.le_trans HD.out (Nat.le_trans E0.out.size hk)) (Kd.bS HF.out.vu E0.out) (Below.refl _ _) (Nat.le_trans HD.out E0.out.size) jI ?_;intro v1 w6 h1 h2 h3 h4;obtain⟨A9,c9,rfl,-,-⟩:=Kd.bL h1;refine Xj ?_;clear h1 h4;intro F1 F3 F4 f6 e6;clear h2 h3;refine hK.out _ _ ?_;clear hK K;refine cK (a':=?_) ?_ ?_;rotate_left
    ·show Act.put _ (some 50) _=_
     exact aad
    refine pv 13 51 ?_;refine pv 14 52 ?_;refine eF (i:=15) (N:=none) #[true,true,true,true,true,true,true,true,true,true,true,true,true,true,true,true] rfl rfl dL wN (fun K hK=>?_);refine gy (w1:=?_) Nr rfl ?_ ?_;rotate_left
    ·go_simp
     rfl
    refine hK.out _ _ ?_;clear hK K;refine dP dL ?_;have Lg:w6.heap[w2.heap.size]?=some (.cells #[.string tn,.int .i64 tk,.int .i64 tp,.int .i64 ti,.bool tc] 43 (0,0)):=(F3.out.block _ (Nat.lt_of_lt_of_le (ay dI.out) E0.out.size) (fun e=>by have:=H.out.hi _ (.inr (.inr (.inl e.symm)));have:=HB.out.size;omega)).trans ((E0.out.block _ (ay dI.out)).trans dI.out);have hgb:w2.heap.size≠m.g:=fun e=>by have:=H.out.hi _ (.inl rfl);have:=HB.out.size;omega
    have e4:∀u,(w6.setCell ⟨m.g,1,none⟩ u).cell? ⟨w2.heap.size,4,none⟩=some (.bool tc):=fun u=>(aj ((Below.heap_setCell _ _ _ _ hgb).trans Lg) 4).trans rfl;clear Lg hgb;go_wp2;go_ret;have hmk:=Rk.wJ (t:=(⟨p,3,tp,name,false⟩:bV)) HF.out (Below.refl _ _) E0.out F3.out F1.out F4.out
    have hrs:rs=({(s.fail p 91:RS)with uses:=s.uses++[(⟨p,3,tp,name,false⟩:bV)]},!tc):=by
     rw[jo.out,HKK.out];rw[if_pos (Yt.out.2 rfl)]
     try rfl
    rw[hrs];refine⟨rfl,?_⟩;have h9:=Rk.trans (RM.Up.refl _ _) Yn.out hmk;rw[show({(s.fail p 91:RS)with uses:=(s.fail p 91).uses++[(⟨p,3,tp,name,false⟩:bV)]}:RS)={(s.fail p 91:RS)with uses:=s.uses++[(⟨p,3,tp,name,false⟩:bV)]}from by rw[HU.out]]at h9;exact h9
   |false=>
    exact agu
theorem Lh {D:Nat}{w:World}{m:RM}{s:RS}(h:RF D w m s)(name:ByteArray)(p:Int)(b:Bool)(hn:s.aN.length≤1099511627776)(hun:s.uses.length≤1099511627776)(ht:bO s.aN name=none):
  Calls Tryz.prog 104 #[.pointer (some ⟨m.g,0,none⟩),.string name,.int .i64 p,.bool b] w fun r w'=>r= .returned (.bool (s.je name p b).2)∧Rk D m (s.je name p b).1 w w':=by
 have HT:=hide (xU h name hn);have H:=hide h;have Jv:=hide ht;refine WZ ?_;intro Af;obtain⟨rs,hrs⟩:∃r,s.je name p b=r:=⟨_,rfl⟩;rw[hrs];have jo:=hide (show rs=if(b&&jE blt name)=true then({s with uses:=s.uses++[⟨p,1,0,name,false⟩]},false)else(s.fail p 91,true)from by rw[←hrs];unfold RS.je;rw[ht]);obtain⟨nb,hnb⟩:∃n,blt.length=n:=⟨_,rfl⟩;have aut:(0:Int)<(nb:Int):=by rw[←hnb];decide
 have auu:nb≤5:=by rw[←hnb];decide
 have HBL:=hide (fun w=>DT w);rw[hnb]at HBL;have G8:=hide hnb;clear h ht hrs hnb;go_enter Tryz.func104,Tryz.ntmps104;go_wp2_with (go_at_call 97;refine Aside0.out ?_);refine⟨?_⟩;refine HT.out.mono ?_;rintro e w2 ⟨i,rfl,hix,hb⟩;obtain rfl:=zf hix Jv.out;have HB:=hide hb;clear hix hb;go_wp2_with (go_at_call 119;refine(HBL.out _).mono ?_;rintro e w3 ⟨A5,c5,rfl,El,Cg,h3⟩;have HB3:=hide (HB.out.trans (h3.mono HB.out.size));have HC:=hide Cg;clear h3 Cg)
 cases b with
 |false=>
  go_loopg [13] (1) (fun gk v13 wr=>v13= .int .i64 0∧0<gk∧wr=w3)
  case atStart=>exact⟨rfl,aG,rfl⟩
  case round=>
   obtain⟨rfl,lS,rfl⟩:=hrel;go_wp2_with (go_at_call 98;refine(jg (H.out.below HB3.out) p 91).mono ?_;rintro e w4 ⟨rfl,h5,h6⟩;have HQ:=hide (And.intro h5 h6);clear h5 h6)
   all_goals
    go_ret;rw[jo.out,if_neg qo];exact⟨rfl,Rk.shift HB3.out (Rk.same HQ.out.1 HQ.out.2)⟩
 |true=>
  have Q0:=hide (show jE (blt.take 0) name=false from rfl);go_loopg [13] (nb+1) (fun gk v13 wr=>∃i:Nat,i≤nb∧nb-i<gk∧v13= .int .i64 i∧Aside0 (jE (blt.take i) name=false)∧wr=w3)
  case atStart=>exact⟨0,Nat.zero_le _,aG,rfl,Q0,rfl⟩
  case round=>
   obtain⟨i,hi,lS,rfl,Q,rfl⟩:=hrel;clear Q0;by_cases hlt:i<nb
   ·have eY:(i:Int)<(nb:Int):=aG
    obtain⟨t,ht⟩:∃t,blt[i]?=some t:=⟨_,List.getElem?_eq_getElem (by rw[G8.out];exact hlt)⟩;obtain⟨ad,rfl,hcell⟩:=HC.out.2.2 aG;obtain⟨cs,g2,g1,g3⟩:=hcell i t ht
    have k0:wr.cell? (ad.add i)=some (.string t):=by
     have h1:cs=[.string t]:=g1;subst h1;have:=g3 0 (.string t) rfl
     rwa[show(Kd.string).sz=1 from rfl,Nat.mul_one,Nat.add_zero]at this
    have HTI:=hide ht;clear ht hcell g1 g2 g3;obtain⟨z,hz⟩:∃z,(t.toList==name.toList)=z:=⟨_,rfl⟩
    have hin:jE (blt.take (i+1)) name=z:=by
     rw[bJ HTI.out,Le,Q.out,Bool.false_or,←hz,Bool.eq_iff_iff,beq_iff_eq,decide_eq_true_eq];exact str_eq.symm
    have xV:=hide hin;clear hin
    cases z with
    |true=>
     have hall:jE blt name=true:=kV.2 (List.mem_of_mem_take (kV.1 xV.out));have wG:=hide hall;have hfw:=H.out.below HB3.out;have c1:wr.cell? ⟨m.g,1,none⟩=some m.vu:=(aj hfw.blk 1).trans rfl;have HFW:=hide hfw;clear hall hfw;go_wp2_with ((with_reducible refine cO (b:= .append) (xs:=#[.tmp 76,.tmp 80]) rfl ?_);at_builtin;refine Aside0.out ?_);refine⟨?_⟩;refine Kd.gP K5 (w0:=wr) D rfl (.tmp 76) (.tmp 80) 26 37 xH 48 rfl Tryz.underlying26 jZ rfl wN aG m.vu (s.uses.map bV.cs) (bV.cs ⟨p,1,0,name,false⟩) [.int .i64 p,.int .i64 1,.int .i64 0,.string name,.bool false] (fun k=>D≤k) (fun _=>False) rfl rfl ⟨rfl,rfl,eU⟩ (fun _ hk=>hk.elim) (fun k hk=>Nat.le_trans Af.out (Nat.le_trans HB3.out.size hk)) HFW.out.vu (Below.refl _ _) (Nat.le_trans Af.out HB3.out.size) za ?_;intro v1 w6 h1 h2 h3 h4;obtain⟨A9,c9,rfl,-,-⟩:=Kd.bL h1;rw[List.length_append,List.length_map]at h1 h4;have qx:w6.heap[m.g]?=_:=(h3.block _ (ay HFW.out.blk) (fun e=>HFW.out.qj.2.1 e.symm)).trans HFW.out.blk;have e6:=(aj qx 1).trans rfl;have f6:=aQ qx 1;have HR:=hide (Rk.wJ HFW.out (Below.refl _ _) (Below.refl _ _) h3 h1 h4);clear h1 h2 h3 h4 qx c1 k0;go_wp2;go_ret;rw[jo.out,if_pos (by rw[wG.out];rfl)];exact⟨rfl,Rk.shift HB3.out HR.out⟩
    |false=>
     go_wp2;go_roundg (nb-i)
     case measure=>omega
     case rel=>exact⟨i+1,aG,aG,Nb,xV,rfl⟩
   ·obtain rfl:i=nb:=aG
    have hq:=Q.out;rw[List.take_of_length_le (by rw[G8.out];exact Nat.le_refl _)]at hq;have HQN:=hide hq;clear hq;go_wp2_with (go_at_call 98;refine(jg (H.out.below HB3.out) p 91).mono ?_;rintro e w4 ⟨rfl,h5,h6⟩;have HQ:=hide (And.intro h5 h6);clear h5 h6);go_ret;rw[jo.out,if_neg (by rw[HQN.out];simp)];exact⟨rfl,Rk.shift HB3.out (Rk.same HQ.out.1 HQ.out.2)⟩
theorem CJ {D:Nat}{w:World}{m:RM}{s:RS}(h:RF D w m s)(name:ByteArray)(p:Int)(b:Bool)(hn:s.aN.length≤1099511627776)(hun:s.uses.length≤1099511627776):
  Calls Tryz.prog 104 #[.pointer (some ⟨m.g,0,none⟩),.string name,.int .i64 p,.bool b] w fun r w'=>r= .returned (.bool (s.je name p b).2)∧Rk D m (s.je name p b).1 w w':=by
 cases ht:bO s.aN name with
 |none=>exact Lh h name p b hn hun ht
 |some t=>exact Lf h name p b hn hun t ht
theorem CK {D:Nat}{w:World}{m:RM}{s:RS}(h:RF D w m s)(name:ByteArray)(p:Int)(hn:s.aN.length≤1099511627776)(hun:s.uses.length≤1099511627776)(hln:s.aT.length≤1099511627776):
  Calls Tryz.prog 99 #[.pointer (some ⟨m.g,0,none⟩),.string name,.int .i64 p] w fun r w'=>r= .returned (.bool (s.use name p).2)∧Rk D m (s.use name p).1 w w':=by
 have HT:=hide (Oa h name hln);have H:=hide h;refine WZ ?_;intro Af;have Oc:=hide hun
 cases ht:kQ s.aT name with
 |none=>
  rw[show s.use name p=s.je name p true from by unfold RS.use;rw[ht]];have Jv:=hide ht;have HUT:=hide (fun(W:World) (hb:Below w.heap.size w W)=>CJ (H.out.below hb) name p true hn hun);obtain⟨rs,hrs⟩:∃r,s.je name p true=r:=⟨_,rfl⟩;rw[hrs]at HUT⊢;clear h ht hrs;go_enter Tryz.func99,Tryz.ntmps99;go_wp2_with (go_at_call 118;refine Aside0.out ?_);refine⟨?_⟩;refine HT.out.mono ?_;rintro e w2 ⟨i,rfl,hix,hb⟩
  obtain rfl:i= -1:=by
   rcases hix with⟨-,e⟩|⟨k,t,-,-,e⟩
   ·exact e
   ·rw[Jv.out]at e;cases e
  have HC:=hide (HUT.out w2 hb);have HB:=hide hb;clear hix hb HUT;go_wp2_with (go_at_call 104;refine HC.out.mono ?_;rintro e w3 ⟨rfl,hq⟩;have HQ:=hide hq;clear hq);go_ret;exact⟨rfl,Rk.shift HB.out HQ.out⟩
 |some d=>
  obtain⟨dn,dp,df⟩:=d;rw[show s.use name p=({s with uses:=s.uses++[⟨p,2,dp,name,false⟩]},df)from by unfold RS.use;rw[ht]];have Jv:=hide ht;obtain⟨A,n,c,hvl⟩:∃A n c,m.vl= .slice A n c:=ug;have Dt:=hide hvl;clear h ht hvl;go_enter Tryz.func99,Tryz.ntmps99;go_wp2_with (go_at_call 118;refine Aside0.out ?_);refine⟨?_⟩;refine HT.out.mono ?_;rintro e w2 ⟨i,rfl,hix,hb⟩
  obtain⟨k,rfl,hk⟩:∃k:Nat,i=(k:Int)∧s.aT[k]?=some ⟨dn,dp,df⟩:=by
   rcases hix with⟨e,-⟩|⟨k,t,e1,e2,e3⟩
   ·rw[Jv.out]at e;cases e
   ·rw[Jv.out]at e3;cases e3;exact⟨k,e1,e2⟩
  have hf2:=H.out.below hb;have HF:=hide hf2;obtain⟨hC,hnn⟩:=hf2.C_l Dt.out;obtain⟨ad,rfl,k0,k1,k2⟩:=Yq hC hk hnn;have hkn:(k:Int)<(n:Int):=by have:=(List.getElem?_eq_some_iff.1 hk).1;omega
  have hk0:(0:Int)≤(k:Int):=aG;have HK:=hide hk;have J4:=hide hnn;have HB:=hide hb;have HD:=hide (show D≤w2.heap.size from Nat.le_trans Af.out hb.size)
  have HS:=hide (fun(W:World) (hb:Below w2.heap.size w2 W)=>show W.cell? ⟨m.g,1,none⟩=some (m.vu)∧W.cell? ⟨m.g,2,none⟩=some (.slice (some ad) n c)∧W.cell? ⟨(ad.add (k*3)).block,(ad.add (k*3)).off+1,none⟩=some (.int .i64 dp)from by
   obtain⟨hC,hnn⟩:=(HF.out.below hb).C_l Dt.out;obtain⟨JB,e,k0,k1,k2⟩:=Yq hC HK.out hnn
   cases e
   exact⟨(aj ((hb.block _ (ay HF.out.blk)).trans HF.out.blk) 1).trans rfl,by rw[←Dt.out];exact(aj ((hb.block _ (ay HF.out.blk)).trans HF.out.blk) 2).trans rfl,k1⟩)
  clear hix hb hf2 hC hnn hk k0 k1 k2;go_wp2;have hb0:Below w2.heap.size w2 w2.drew:=bq (Below.refl _ _);refine bX (n:=21) (S:=fun w'=>w'.cell? ⟨m.g,1,none⟩=some (m.vu)∧w'.cell? ⟨m.g,2,none⟩=some (.slice (some ad) n c)∧w'.cell? ⟨(ad.add (k*3)).block,(ad.add (k*3)).off+1,none⟩=some (.int .i64 dp)) (ds:=[17,20]) #[false,false,false,false,false,false,false,false,false,false,false,false,false,false,false,false,false,false,false,false,false] dL rfl rfl ⟨(HS.out _ hb0).1,(HS.out _ hb0).2.1,(HS.out _ hb0).2.2⟩ (fun hHeld=>?_);obtain⟨we,hwd⟩:∃wd,wd=w2.drew:=⟨_,rfl⟩;rw[←hwd]at hHeld⊢;have E0:=hide (show Below w2.heap.size w2 we from gX);clear hwd hb0;refine pv 0 13 ?_;refine pv 1 14 ?_;refine pv 2 15 ?_;refine pv 3 16 ?_;refine pv 5 18 ?_;refine pv 6 19 ?_;refine pv 7 20 ?_;refine pv 8 21 ?_;refine pv 10 23 ?_;refine pv 14 27 ?_;refine tv 4 17 hHeld ?_;refine tv 9 22 hHeld ?_;refine pv 11 24 ?_;refine pv 12 25 ?_;refine tv 13 26 hHeld ?_;refine pv 15 28 ?_;refine iw (i:=16) (N:=some 29) #[true,true,true,true,true,true,true,true,true,true,true,true,true,true,true,true,true,false,false,false,false] rfl rfl dL wN (fun K hK=>?_);refine gW (w1:=?_) (v:=?_) Nr rfl ?_ ?_;rotate_left 2
  ·exact Xt
  have E1:=hide (E0.out.trans ((au (Below.refl we.heap.size we) (.cells #[.int .i64 p,.int .i64 2,.int .i64 dp,.string name,.bool false] 37)).mono E0.out.size));refine hK.out _ _ ⟨(HS.out _ E1.out).1,(HS.out _ E1.out).2.1,(HS.out _ E1.out).2.2⟩ (fun hHeld=>?_);clear hK K;refine cK (a':=?_) ?_ ?_;rotate_left
  ·show Act.put _ (some 29) _=_
   exact aad
  refine eF (i:=17) (N:=some 30) #[true,true,true,true,true,true,true,true,true,true,true,true,true,true,true,true,true,true,false,false,false] rfl rfl dL wN (fun K hK=>?_);refine Kd.cZ K5 (w0:=we) D Nr (.tmp 17) (.tmp 29) 26 37 xH 48 rfl Tryz.underlying26 jZ rfl wN aG m.vu (_:List (List Value)) (bV.cs (⟨p,2,dp,name,false⟩:bV)) [.int .i64 p,.int .i64 2,.int .i64 dp,.string name,.bool false] (fun k=>D≤k) (fun _=>False) rfl rfl ⟨rfl,rfl,eU⟩ (fun _ hk=>hk.elim) (fun k hk=>Nat.le_trans HD.out (Nat.le_trans E0.out.size hk)) (Kd.bS HF.out.vu E0.out) (Below.refl _ _) (Nat.le_trans HD.out E0.out.size) jI ?_;intro v1 w6 h1 h2 h3 h4;obtain⟨A9,c9,rfl,-,-⟩:=Kd.bL h1;refine Xj ?_;clear h1 h4;intro F1 F3 F4 f6 e6;clear h2 h3;refine hK.out _ _ ?_;clear hK K;refine cK (a':=?_) ?_ ?_;rotate_left
  ·show Act.put _ (some 30) _=_
   exact aad
  refine pv 18 31 ?_;refine pv 19 32 ?_;refine eF (i:=20) (N:=none) #[true,true,true,true,true,true,true,true,true,true,true,true,true,true,true,true,true,true,true,true,true] rfl rfl dL wN (fun K hK=>?_);refine gy (w1:=?_) Nr rfl ?_ ?_;rotate_left
  ·go_simp
   rfl
  refine hK.out _ _ ?_;clear hK K;refine dP dL ?_;have HMK:=hide (Rk.wJ (t:=(⟨p,2,dp,name,false⟩:bV)) HF.out (Below.refl _ _) E0.out F3.out F1.out F4.out);obtain⟨W7,wP⟩:∃W7,w6.setCell ⟨m.g,1,none⟩ (.slice A9 (s.uses.length+1) c9)=W7:=⟨_,rfl⟩;have hmk:=HMK.out;rw[show s.uses.length+[bV.cs (⟨p,2,dp,name,false⟩:bV)].length=s.uses.length+1 from rfl]at hmk;rw[wP]at hmk;have hgr:=nV ((F3.out.block _ (Nat.lt_of_lt_of_le (ay HF.out.blk) E0.out.size) (fun e=>HF.out.qj.2.1 e.symm)).trans ((E0.out.block _ (ay HF.out.blk)).trans HF.out.blk)) 1 (.slice A9 (s.uses.length+1) c9);rw[wP]at hgr;have q2:W7.cell? ⟨m.g,2,none⟩=some (.slice (some ad) n c):=by rw[←Dt.out];exact(aj hgr 2).trans rfl
  have hlk:∀k,bQ m.vl k→W7.heap[k]?=w2.heap[k]?:=fun k hk=>by
   have h1:=Kd.vF HF.out.vl k hk;rw[←wP];refine(Below.heap_setCell w6 ⟨m.g,1,none⟩ _ k (fun(e:k=m.g)=>HF.out.qj.2.2.1 (e▸hk))).trans ?_;exact(F3.out.block _ (Nat.lt_of_lt_of_le h1 E0.out.size) (fun e=>(HF.out.ne k).2.2.2.1 ⟨e.symm,hk⟩)).trans (E0.out.block _ h1)
  have q3:W7.cell? ⟨(ad.add (k*3)).block,(ad.add (k*3)).off+2,none⟩=some (.bool df):=by
   have hR:=bW (w':=W7) rfl HF.out.vl hlk;rw[Dt.out]at hR;obtain⟨h2,-,h3⟩:=Kd.gQ hR;rw[←h2]at h3;obtain⟨JB,e,k0,k1,k2⟩:=Yq h3 HK.out J4.out
   cases e
   exact k2
  have aou:=hide hmk;clear hmk hgr hlk;go_wp2;clear wP;go_ret;exact⟨rfl,Rk.shift HB.out aou.out⟩
end Go.Proofs.YtldgmneijipbjaaGreatDoor.H
