import Derived.Test.YtldgmneijipbjaaGreatDoorBUL
import Derived.Test.YtldgmneijipbjaaGreatDoorBP1
import Derived.Test.YtldgmneijipbjaaGreatDoorBPC
import Derived.Test.YtldgmneijipbjaaGreatDoorBMac
set_option linter.unusedVariables false
set_option linter.unusedSimpArgs false
set_option maxRecDepth 100000
set_option maxHeartbeats 16000000
namespace Go.Proofs.YtldgmneijipbjaaGreatDoor.H
open Go.RowKit Go.Shelf Go.Maps Go.WideMaps Go.Proofs.YtldgmneijipbjaaGreatDoorW.PrintWords Go.Proofs.YtldgmneijipbjaaGreatDoorW.PrintLast Go.Proofs.YtldgmneijipbjaaGreatDoorW.PrintMore
open PScopeOwn
abbrev K3:Kd (List Value):=Kd.raw 3
def kF.cs (d:kF):List Value:=[.string d.name,.int .i64 d.pos,.bool d.free]
def exC (s:ByteArray):List Value:=[.string s]
structure RM where
 g:Nat
 vt:Value
 vu:Value
 vl:Value
 vx:Value
def RM.own (m:RM)(k:Nat):Prop:=k=m.g∨bQ m.vt k∨bQ m.vu k∨bQ m.vl k∨bQ m.vx k
def RM.cells (m:RM)(s:RS):Array Value:=#[m.vt,m.vu,m.vl,.bool s.this,.bool s.ins,.int .i64 s.PV,.int .i64 s.err,m.vx]
structure RF (D:Nat)(w:World)(m:RM)(s:RS):Prop where
 blk:w.heap[m.g]?=some (.cells (m.cells s) 62 (0,0))
 vt:K5.R 43 w D (fun k=>D≤k) m.vt (s.aN.map dA.cs)
 vu:K5.R 37 w D (fun k=>D≤k) m.vu (s.uses.map bV.cs)
 vl:K3.R 104 w D (fun k=>D≤k) m.vl (s.aT.map kF.cs)
 vx:K1.R 9 w D (fun k=>D≤k) m.vx (s.ex.map exC)
 lg:D≤m.g
section
variable {D:Nat} {w w':World} {m:RM} {s s':RS}
theorem RF.low (h:RF D w m s)(k:Nat)(hk:m.own k):D≤k:=by
 rcases hk with rfl|hk|hk|hk|hk
 ·exact h.lg
 ·exact Kd.pW h.vt k hk
 ·exact Kd.pW h.vu k hk
 ·exact Kd.pW h.vl k hk
 ·exact Kd.pW h.vx k hk
theorem RF.hi (h:RF D w m s)(k:Nat)(hk:m.own k):k<w.heap.size:=by
 rcases hk with rfl|hk|hk|hk|hk
 ·exact ay h.blk
 ·exact Kd.vF h.vt k hk
 ·exact Kd.vF h.vu k hk
 ·exact Kd.vF h.vl k hk
 ·exact Kd.vF h.vx k hk
theorem RF.keep (h:RF D w m s)(hk:∀k,m.own k→w'.heap[k]?=w.heap[k]?):RF D w' m s where
 blk:=(hk _ (.inl rfl)).trans h.blk
 vt:=bW rfl h.vt (fun k q=>hk k (.inr (.inl q)))
 vu:=bW rfl h.vu (fun k q=>hk k (.inr (.inr (.inl q))))
 vl:=bW rfl h.vl (fun k q=>hk k (.inr (.inr (.inr (.inl q)))))
 vx:=bW rfl h.vx (fun k q=>hk k (.inr (.inr (.inr (.inr q)))))
 lg:=h.lg
theorem RF.below (h:RF D w m s)(hb:Below w.heap.size w w'):RF D w' m s:=h.keep (fun k hk=>hb.block k (h.hi k hk))
theorem RF.bR {w0:World}(h:RF D w m s)(hb:Below D w0 w)(hf:Fr m.own w w'):Below D w0 w':=
 hb.trans (hf.below (Nat.le_trans h.lg (Nat.le_of_lt (ay h.blk))) h.low)
theorem RF.qj (h:RF D w m s):¬bQ m.vt m.g∧¬bQ m.vu m.g∧¬bQ m.vl m.g∧¬bQ m.vx m.g:=by
 have hb:=h.blk;refine⟨fun e=>?_,fun e=>?_,fun e=>?_,fun e=>?_⟩
 ·obtain⟨cs,q⟩:=Kd.dO h.vt _ e;rw[hb]at q;cases q
 ·exact adD
 ·exact adR
 ·obtain⟨cs,q⟩:=Kd.dO h.vx _ e;rw[hb]at q;cases q
theorem RF.ne (h:RF D w m s)(k:Nat):¬(bQ m.vt k∧bQ m.vu k)∧¬(bQ m.vt k∧bQ m.vl k)∧¬(bQ m.vt k∧bQ m.vx k)∧¬(bQ m.vu k∧bQ m.vl k)∧¬(bQ m.vu k∧bQ m.vx k)∧¬(bQ m.vl k∧bQ m.vx k):=by
 refine⟨?_,?_,?_,?_,?_,?_⟩<;>rintro⟨a,b⟩
 ·obtain⟨c,p⟩:=Kd.dO h.vt k a;obtain⟨d,q⟩:=Kd.dO h.vu k b;rw[p]at q;cases q
 ·obtain⟨c,p⟩:=Kd.dO h.vt k a;obtain⟨d,q⟩:=Kd.dO h.vl k b;rw[p]at q;cases q
 ·obtain⟨c,p⟩:=Kd.dO h.vt k a;obtain⟨d,q⟩:=Kd.dO h.vx k b;rw[p]at q;cases q
 ·obtain⟨c,p⟩:=Kd.dO h.vu k a;obtain⟨d,q⟩:=Kd.dO h.vl k b;rw[p]at q;cases q
 ·obtain⟨c,p⟩:=Kd.dO h.vu k a;obtain⟨d,q⟩:=Kd.dO h.vx k b;rw[p]at q;cases q
 ·obtain⟨c,p⟩:=Kd.dO h.vl k a;obtain⟨d,q⟩:=Kd.dO h.vx k b;rw[p]at q;cases q
theorem RF.put (h:RF D w m s)(hb:w'.heap[m.g]?=some (.cells (m.cells s') 62 (0,0)))(hk:∀k,k≠m.g→m.own k→w'.heap[k]?=w.heap[k]?)(e1:s'.aN=s.aN)(e2:s'.uses=s.uses)(e3:s'.aT=s.aT)(e4:s'.ex=s.ex):RF D w' m s':=by
 obtain⟨n1,n2,n3,n4⟩:=h.qj;refine⟨hb,?_,?_,?_,?_,h.lg⟩
 ·rw[e1];exact bW rfl h.vt (fun k q=>hk k (fun e=>n1 (e▸q)) (.inr (.inl q)))
 ·rw[e2];exact bW rfl h.vu (fun k q=>hk k (fun e=>n2 (e▸q)) (.inr (.inr (.inl q))))
 ·rw[e3];exact bW rfl h.vl (fun k q=>hk k (fun e=>n3 (e▸q)) (.inr (.inr (.inr (.inl q)))))
 ·rw[e4];exact bW rfl h.vx (fun k q=>hk k (fun e=>n4 (e▸q)) (.inr (.inr (.inr (.inr q)))))
end
structure RM.Up (w:World)(m m':RM):Prop where
 g:m'.g=m.g
 vt:OwnAt w m.vt m'.vt
 vu:OwnAt w m.vu m'.vu
 vl:OwnAt w m.vl m'.vl
 vx:OwnAt w m.vx m'.vx
theorem RM.Up.refl (w:World)(m:RM):m.Up w m:=⟨rfl,.inl rfl,.inl rfl,.inl rfl,.inl rfl⟩
theorem RM.Up.trans {w w1:World}{m m1 m2:RM}(h:m.Up w m1)(k:m1.Up w1 m2)(hs:w.heap.size≤w1.heap.size):m.Up w m2:=⟨k.g.trans h.g,h.vt.trans k.vt hs,h.vu.trans k.vu hs,h.vl.trans k.vl hs,h.vx.trans k.vx hs⟩
theorem RM.Up.own {w:World}{m m':RM}(h:m.Up w m')(k:Nat)(hk:m'.own k):m.own k∨w.heap.size≤k:=by
 rcases hk with hk|hk|hk|hk|hk
 ·exact .inl (.inl (hk.trans h.g))
 ·exact(h.vt.own k hk).imp (fun q=> .inr (.inl q)) id
 ·exact(h.vu.own k hk).imp (fun q=> .inr (.inr (.inl q))) id
 ·exact(h.vl.own k hk).imp (fun q=> .inr (.inr (.inr (.inl q)))) id
 ·exact(h.vx.own k hk).imp (fun q=> .inr (.inr (.inr (.inr q)))) id
structure Rk (D:Nat)(m:RM)(s:RS)(w w':World):Prop where
 fin:∃m',RF D w' m' s∧m.Up w m'
 fr:Fr m.own w w'
section
variable {D:Nat} {w w1 w' w2:World} {m m1:RM} {s:RS}
theorem Rk.trans (hu:m.Up w m1)(hf:Fr m.own w w1)(h:Rk D m1 s w1 w'):Rk D m s w w':=by
 exact aex
theorem Rk.same (h:RF D w' m s)(hf:Fr (fun k=>k=m.g) w w'):Rk D m s w w':=⟨⟨m,h,RM.Up.refl _ _⟩,hf.mono (fun k hk=> .inl hk)⟩
theorem Rk.of_below (h:RF D w m s)(hb:Below w.heap.size w w'):Rk D m s w w':=⟨⟨m,h.below hb,RM.Up.refl _ _⟩,Fr.of_below hb⟩
theorem Rk.more (q:Rk D m s w w')(h:Below w'.heap.size w' w2):Rk D m s w w2:=by
 obtain⟨m',h1,h2⟩:=q.fin;exact⟨⟨m',h1.below h,h2⟩,q.fr.more h⟩
theorem Rk.shift (hb:Below w.heap.size w w1)(q:Rk D m s w1 w'):Rk D m s w w':=Rk.trans (RM.Up.refl _ _) (Fr.of_below hb) q
theorem Rk.bR {w0:World}{s':RS}(q:Rk D m s' w w')(h:RF D w m s)(hb:Below D w0 w):Below D w0 w':=h.bR hb q.fr
end
theorem RS.FR (s:RS)(p e:Int):s.fail p e=if(s.err==0||decide (p<s.PV))=true then {s with PV:=p,err:=e}else s:=by
 unfold RS.fail
 congr 1
 simp
theorem jg {D:Nat}{w:World}{m:RM}{s:RS}(h:RF D w m s)(p e:Int):
  Calls Tryz.prog 98 #[.pointer (some ⟨m.g,0,none⟩),.int .i64 p,.int .i64 e] w fun r w'=>r= .returned (.tuple #[])∧RF D w' m (s.fail p e)∧Fr (fun k=>k=m.g) w w':=by
 have c5:w.cell? ⟨m.g,5,none⟩=some (.int .i64 s.PV):=(aj h.blk 5).trans rfl;have c6:w.cell? ⟨m.g,6,none⟩=some (.int .i64 s.err):=(aj h.blk 6).trans rfl;have f5:=aQ h.blk 5;have f6:=aQ h.blk 6;have H:=hide h;obtain⟨z0,hz0⟩:∃z,(s.err==0)=z:=⟨_,rfl⟩;obtain⟨z1,hz1⟩:∃z,decide (p<s.PV)=z:=⟨_,rfl⟩;obtain⟨r,hr⟩:∃r,s.fail p e=r:=⟨_,rfl⟩;have HR:=hide hr;have HP:=hide (show r=if(z0||z1)=true then {s with PV:=p,err:=e}else s from by rw[←hr,RS.FR,hz0,hz1]);rw[hr];have hs1:=bT (cs':=#[m.vt,m.vu,m.vl,.bool s.this,.bool s.ins,.int .i64 p,.int .i64 s.err,m.vx]) h.blk 5 (.int .i64 p) rfl;have hs2:=bT (cs':=m.cells {s with PV:=p,err:=e}) hs1 6 (.int .i64 e) rfl
 have HS:=hide (show RF D ((w.setCell ⟨m.g,5,none⟩ (.int .i64 p)).setCell ⟨m.g,6,none⟩ (.int .i64 e)) m {s with PV:=p,err:=e}∧Fr (fun k=>k=m.g) w ((w.setCell ⟨m.g,5,none⟩ (.int .i64 p)).setCell ⟨m.g,6,none⟩ (.int .i64 e))from
  ⟨h.put hs2 (fun k hk _=>(Below.heap_setCell _ _ _ _ hk).trans (Below.heap_setCell _ _ _ _ hk)) rfl rfl rfl rfl,Fr.setCell (p:=⟨m.g,6,none⟩) (Fr.setCell (p:=⟨m.g,5,none⟩) (Fr.refl (fun k=>k=m.g) w) (.inl rfl) _) (.inl rfl) _⟩)
 clear h hr hs1 hs2;go_enter Tryz.func98,Tryz.ntmps98;go_wp2
 all_goals
  go_end0;refine⟨rfl,?_⟩;rw[HP.out]
  first|(rw[if_pos MK];exact HS.out)|(rw[if_neg MK];exact⟨H.out,Fr.refl _ _⟩)
theorem y9 {n:Nat}{w:World}{A:Option Addr}{len:Nat}{xs:List (List Value)}(h:Kd.C (Kd.raw n) w A len xs){i:Nat}{x:List Value}(hx:xs[i]?=some x)(hi:i<len):∃ad,A=some ad∧∀j u,x[j]?=some u→w.cell? (ad.add (i*n+j))=some u:=by
 obtain⟨ad,e,hg⟩:=h.2.2 aG;obtain⟨cs,h1,h2,h3⟩:=hg i x hx;obtain⟨rfl,-,-⟩:=h2;exact⟨ad,e,h3⟩
def Yj (l:List dA)(s:ByteArray)(r:Int):Prop:=(bO l s=none∧r= -1)∨∃(k:Nat) (t:dA),r=(k:Int)∧l[k]?=some t∧bO l s=some t
theorem Yk {l:List dA}{s:ByteArray}{k:Nat}{t:dA}(hk:l[k]?=some t)(ht:t.name=s)(hn:bO (l.take k) s=none):bO l s=some t:=by
 unfold bO at*;have hi:=(List.getElem?_eq_some_iff.1 hk).1;have e:l=l.take k++(t::l.drop (k+1)):=by rw[←drop_at hk,List.take_append_drop]
 rw[e,List.find?_append,hn,List.find?_cons];simp[ht]
theorem Yl {l:List dA}{s:ByteArray}{k:Nat}{t:dA}(hk:l[k]?=some t)(ht:t.name≠s)(hn:bO (l.take k) s=none):bO (l.take (k+1)) s=none:=by
 unfold bO at*;rw[bJ hk,List.find?_append,hn];simp[ht]
theorem xU {D:Nat}{w:World}{m:RM}{s:RS}(h:RF D w m s)(name:ByteArray)(hn:s.aN.length≤1099511627776):
  Calls Tryz.prog 97 #[.pointer (some ⟨m.g,0,none⟩),.string name] w fun r w'=>∃i:Int,r= .returned (.int .i64 i)∧Yj s.aN name i∧Below w.heap.size w w':=by
 obtain⟨n,hnn⟩:∃n,s.aN.length=n:=⟨_,rfl⟩;obtain⟨A,c,Sy,hcap,hC⟩:=Kd.bL h.vt;rw[List.length_map,hnn]at Sy hcap hC;have c0:w.cell? ⟨m.g,0,none⟩=some (.slice A n c):=by rw[←Sy];exact(aj h.blk 0).trans rfl
 have HC:=hide hC;have HN:=hide hnn;rw[hnn]at hn;have Q0:=hide (show bO (s.aN.take 0) name=none from rfl);clear h hC Sy hcap hnn;go_enter Tryz.func97,Tryz.ntmps97;go_wp2;go_loopg [5] (n+1) (fun gk v5 wr=>∃i:Nat,i≤n∧n-i<gk∧v5= .int .i64 i∧Aside0 (bO (s.aN.take i) name=none)∧wr=w)
 case atStart=>exact⟨0,Nat.zero_le _,aG,rfl,Q0,rfl⟩
 case round=>
  obtain⟨i,hi,lS,rfl,Q,rfl⟩:=hrel;clear Q0;by_cases hlt:i<n
  ·have eY:(i:Int)<(n:Int):=aG
   obtain⟨t,ht⟩:∃t,s.aN[i]?=some t:=⟨_,List.getElem?_eq_getElem mV⟩;obtain⟨ad,rfl,hcell⟩:=y9 HC.out (i:=i) (x:=t.cs) OJ hlt;have k0:wr.cell? (ad.add (i*5))=some (.string t.name):=hcell 0 _ rfl;have HT:=hide ht;clear ht hcell;obtain⟨z,hz⟩:∃z,(t.name.toList==name.toList)=z:=⟨_,rfl⟩;have HZ:=hide hz
   cases z with
   |true=>
    have hnm:t.name=name:=str_eq.1 (by simpa using hz);have HX:=hide (Yk HT.out hnm Q.out);clear hnm;go_wp2;go_ret;exact⟨_,rfl,.inr ⟨i,t,rfl,HT.out,HX.out⟩,Below.refl _ _⟩
   |false=>
    have Q2:=hide (Yl HT.out (fun e=>by have h1:=HZ.out;rw[e]at h1;simp at h1) Q.out);go_wp2;go_roundg (n-i)
    case measure=>omega
    case rel=>exact⟨i+1,aG,aG,Nb,Q2,rfl⟩
  ·obtain rfl:i=n:=aG
   have Q2:=hide (show bO s.aN name=none from by have:=Q.out;rwa[List.take_of_length_le Np]at this);go_wp2;go_ret;exact⟨_,rfl,.inl ⟨Q2.out,rfl⟩,Below.refl _ _⟩
theorem Ir:(Tryz.prog.info? 104).map (fun i=>(i.zero,i.size,i.bytes))=some (some (.agg #[.string ⟨#[]⟩,.int .i64 0,.bool false]),3,32):=dL
theorem abR:(Tryz.prog.info? 9).map (fun i=>(i.zero,i.size,i.bytes))=some (some (.string ⟨#[]⟩),1,16):=dL
theorem Rk.ags {D:Nat}{w w4 we w6:World}{m:RM}{s:RS}{t:dA}{v1:Value}(H:RF D w m s)(h0:Below w.heap.size w w4)(h5:Below w4.heap.size w4 we)(qx:we.grownBy w6 m.vt.ownBlock)
  (hl:K5.R 43 w6 D (fun k=>D≤k) v1 (s.aN.map dA.cs++[dA.cs t]))(hat:v1.ownBlock=m.vt.ownBlock∨∃b,v1.ownBlock=some b∧we.heap.size≤b):
  Rk D m {s with aN:=s.aN++[t]} w (w6.setCell ⟨m.g,0,none⟩ v1):=by
 have hgn:=H.qj;have s0:=h0.size;have s5:=h5.size;have lg:=H.hi _ (.inl rfl);have k6:∀k,k<w.heap.size→¬bQ m.vt k→w6.heap[k]?=w.heap[k]?:=fun k hk hn=>(qx.block k aG (fun e=>hn e.symm)).trans ((h5.block k aG).trans (h0.block k hk));have g6:w6.heap[m.g]?=w.heap[m.g]?:=k6 _ lg hgn.1
 have hne1:¬bQ v1 m.g:=fun e=>by
  unfold bQ at e;rcases hat with q|⟨b,q,hb⟩
  ·exact hgn.1 wC
  ·rw[q]at e;cases e;omega
 have hF:Fr (fun k=>k=m.g∨bQ m.vt k) w (w6.setCell ⟨m.g,0,none⟩ v1):=by
  refine Fr.setCell (p:=⟨m.g,0,none⟩) ?_ (.inl (.inl rfl)) _;exact Ke
 have keep:∀k,k≠m.g→¬bQ m.vt k→m.own k→(w6.setCell ⟨m.g,0,none⟩ v1).heap[k]?=w.heap[k]?:=fun k a b ho=>hF.block k (H.hi k ho) (fun e=>e.elim a b);have N9:OwnAt w m.vt v1:=hat.imp id (fun⟨b,q,hb⟩=>⟨b,q,aG⟩);refine⟨⟨{m with vt:=v1},⟨bT (cs':=({m with vt:=v1}:RM).cells {s with aN:=s.aN++[t]}) (g6.trans H.blk) 0 v1 rfl,?_,?_,?_,?_,H.lg⟩,⟨rfl,?_,?_,?_,?_⟩⟩,hF.mono (fun k hk=>hk.elim .inl (fun q=> .inr (.inl q)))⟩
 ·exact Kg
 ·exact bW rfl H.vu (fun k q=>keep k (fun e=>hgn.2.1 (e▸q)) (fun e=>(H.ne _).1 ⟨e,q⟩) (.inr (.inr (.inl q))))
 ·exact bW rfl H.vl (fun k q=>keep k (fun e=>hgn.2.2.1 (e▸q)) (fun e=>(H.ne _).2.1 ⟨e,q⟩) (.inr (.inr (.inr (.inl q)))))
 ·exact bW rfl H.vx (fun k q=>keep k (fun e=>hgn.2.2.2 (e▸q)) (fun e=>(H.ne _).2.2.1 ⟨e,q⟩) (.inr (.inr (.inr (.inr q)))))
 ·exact N9
 ·exact .inl rfl
 ·exact .inl rfl
 ·exact .inl rfl
theorem Rk.wJ {D:Nat}{w w4 we w6:World}{m:RM}{s:RS}{t:bV}{v1:Value}(H:RF D w m s)(h0:Below w.heap.size w w4)(h5:Below w4.heap.size w4 we)(qx:we.grownBy w6 m.vu.ownBlock)
  (hl:K5.R 37 w6 D (fun k=>D≤k) v1 (s.uses.map bV.cs++[bV.cs t]))(hat:v1.ownBlock=m.vu.ownBlock∨∃b,v1.ownBlock=some b∧we.heap.size≤b):
  Rk D m {s with uses:=s.uses++[t]} w (w6.setCell ⟨m.g,1,none⟩ v1):=by
 have hgn:=H.qj;refine XW ?_;intro s0 s5 lg k6;have g6:w6.heap[m.g]?=w.heap[m.g]?:=k6 _ lg hgn.2.1
 have hne1:¬bQ v1 m.g:=fun e=>by
  unfold bQ at e;rcases hat with q|⟨b,q,hb⟩
  ·exact hgn.2.1 wC
  ·rw[q]at e;cases e;omega
 have hF:Fr (fun k=>k=m.g∨bQ m.vu k) w (w6.setCell ⟨m.g,1,none⟩ v1):=by
  refine Fr.setCell (p:=⟨m.g,1,none⟩) ?_ (.inl (.inl rfl)) _;exact Ke
 have keep:∀k,k≠m.g→¬bQ m.vu k→m.own k→(w6.setCell ⟨m.g,1,none⟩ v1).heap[k]?=w.heap[k]?:=fun k a b ho=>hF.block k (H.hi k ho) (fun e=>e.elim a b);have N9:OwnAt w m.vu v1:=hat.imp id (fun⟨b,q,hb⟩=>⟨b,q,aG⟩);refine⟨⟨{m with vu:=v1},⟨bT (cs':=({m with vu:=v1}:RM).cells {s with uses:=s.uses++[t]}) (g6.trans H.blk) 1 v1 rfl,?_,?_,?_,?_,H.lg⟩,⟨rfl,?_,?_,?_,?_⟩⟩,hF.mono (fun k hk=>hk.elim .inl (fun q=> .inr (.inr (.inl q))))⟩
 ·exact bW rfl H.vt (fun k q=>keep k (fun e=>hgn.1 (e▸q)) (fun e=>(H.ne _).1 ⟨q,e⟩) (.inr (.inl q)))
 ·exact Kg
 ·exact bW rfl H.vl (fun k q=>keep k (fun e=>hgn.2.2.1 (e▸q)) (fun e=>(H.ne _).2.2.2.1 ⟨e,q⟩) (.inr (.inr (.inr (.inl q)))))
 ·exact bW rfl H.vx (fun k q=>keep k (fun e=>hgn.2.2.2 (e▸q)) (fun e=>(H.ne _).2.2.2.2.1 ⟨e,q⟩) (.inr (.inr (.inr (.inr q)))))
 ·exact .inl rfl
 ·exact N9
 ·exact .inl rfl
 ·exact .inl rfl
theorem Rk.N_ {D:Nat}{w w4 we w6:World}{m:RM}{s:RS}{t:kF}{v1:Value}(H:RF D w m s)(h0:Below w.heap.size w w4)(h5:Below w4.heap.size w4 we)(qx:we.grownBy w6 m.vl.ownBlock)
  (hl:K3.R 104 w6 D (fun k=>D≤k) v1 (s.aT.map kF.cs++[kF.cs t]))(hat:v1.ownBlock=m.vl.ownBlock∨∃b,v1.ownBlock=some b∧we.heap.size≤b):
  Rk D m {s with aT:=s.aT++[t]} w (w6.setCell ⟨m.g,2,none⟩ v1):=by
 have hgn:=H.qj;have s0:=h0.size;have s5:=h5.size;have lg:=H.hi _ (.inl rfl);have k6:∀k,k<w.heap.size→¬bQ m.vl k→w6.heap[k]?=w.heap[k]?:=fun k hk hn=>(qx.block k aG (fun e=>hn e.symm)).trans ((h5.block k aG).trans (h0.block k hk));have g6:w6.heap[m.g]?=w.heap[m.g]?:=k6 _ lg hgn.2.2.1
 have hne1:¬bQ v1 m.g:=fun e=>by
  unfold bQ at e;rcases hat with q|⟨b,q,hb⟩
  ·exact hgn.2.2.1 wC
  ·rw[q]at e;cases e;omega
 have hF:Fr (fun k=>k=m.g∨bQ m.vl k) w (w6.setCell ⟨m.g,2,none⟩ v1):=by
  refine Fr.setCell (p:=⟨m.g,2,none⟩) ?_ (.inl (.inl rfl)) _;exact Ke
 have keep:∀k,k≠m.g→¬bQ m.vl k→m.own k→(w6.setCell ⟨m.g,2,none⟩ v1).heap[k]?=w.heap[k]?:=fun k a b ho=>hF.block k (H.hi k ho) (fun e=>e.elim a b);have N9:OwnAt w m.vl v1:=hat.imp id (fun⟨b,q,hb⟩=>⟨b,q,aG⟩);refine⟨⟨{m with vl:=v1},⟨bT (cs':=({m with vl:=v1}:RM).cells {s with aT:=s.aT++[t]}) (g6.trans H.blk) 2 v1 rfl,?_,?_,?_,?_,H.lg⟩,⟨rfl,?_,?_,?_,?_⟩⟩,hF.mono (fun k hk=>hk.elim .inl (fun q=> .inr (.inr (.inr (.inl q)))))⟩
 ·exact bW rfl H.vt (fun k q=>keep k (fun e=>hgn.1 (e▸q)) (fun e=>(H.ne _).2.1 ⟨q,e⟩) (.inr (.inl q)))
 ·exact bW rfl H.vu (fun k q=>keep k (fun e=>hgn.2.1 (e▸q)) (fun e=>(H.ne _).2.2.2.1 ⟨q,e⟩) (.inr (.inr (.inl q))))
 ·exact Kg
 ·exact bW rfl H.vx (fun k q=>keep k (fun e=>hgn.2.2.2 (e▸q)) (fun e=>(H.ne _).2.2.2.2.2 ⟨e,q⟩) (.inr (.inr (.inr (.inr q)))))
 ·exact .inl rfl
 ·exact .inl rfl
 ·exact N9
 ·exact .inl rfl
theorem Rk.agt {D:Nat}{w w4 we w6:World}{m:RM}{s:RS}{t:ByteArray}{v1:Value}(H:RF D w m s)(h0:Below w.heap.size w w4)(h5:Below w4.heap.size w4 we)(qx:we.grownBy w6 m.vx.ownBlock)
  (hl:K1.R 9 w6 D (fun k=>D≤k) v1 (s.ex.map exC++[exC t]))(hat:v1.ownBlock=m.vx.ownBlock∨∃b,v1.ownBlock=some b∧we.heap.size≤b):
  Rk D m {s with ex:=s.ex++[t]} w (w6.setCell ⟨m.g,7,none⟩ v1):=by
 have hgn:=H.qj;have s0:=h0.size;have s5:=h5.size;have lg:=H.hi _ (.inl rfl);have k6:∀k,k<w.heap.size→¬bQ m.vx k→w6.heap[k]?=w.heap[k]?:=fun k hk hn=>(qx.block k aG (fun e=>hn e.symm)).trans ((h5.block k aG).trans (h0.block k hk));have g6:w6.heap[m.g]?=w.heap[m.g]?:=k6 _ lg hgn.2.2.2
 have hne1:¬bQ v1 m.g:=fun e=>by
  unfold bQ at e;rcases hat with q|⟨b,q,hb⟩
  ·exact hgn.2.2.2 wC
  ·rw[q]at e;cases e;omega
 have hF:Fr (fun k=>k=m.g∨bQ m.vx k) w (w6.setCell ⟨m.g,7,none⟩ v1):=by
  refine Fr.setCell (p:=⟨m.g,7,none⟩) ?_ (.inl (.inl rfl)) _;exact Ke
 have keep:∀k,k≠m.g→¬bQ m.vx k→m.own k→(w6.setCell ⟨m.g,7,none⟩ v1).heap[k]?=w.heap[k]?:=fun k a b ho=>hF.block k (H.hi k ho) (fun e=>e.elim a b);have N9:OwnAt w m.vx v1:=hat.imp id (fun⟨b,q,hb⟩=>⟨b,q,aG⟩);refine⟨⟨{m with vx:=v1},⟨bT (cs':=({m with vx:=v1}:RM).cells {s with ex:=s.ex++[t]}) (g6.trans H.blk) 7 v1 rfl,?_,?_,?_,?_,H.lg⟩,⟨rfl,?_,?_,?_,?_⟩⟩,hF.mono (fun k hk=>hk.elim .inl (fun q=> .inr (.inr (.inr (.inr q)))))⟩
 ·exact bW rfl H.vt (fun k q=>keep k (fun e=>hgn.1 (e▸q)) (fun e=>(H.ne _).2.2.1 ⟨q,e⟩) (.inr (.inl q)))
 ·exact bW rfl H.vu (fun k q=>keep k (fun e=>hgn.2.1 (e▸q)) (fun e=>(H.ne _).2.2.2.2.1 ⟨q,e⟩) (.inr (.inr (.inl q))))
 ·exact bW rfl H.vl (fun k q=>keep k (fun e=>hgn.2.2.1 (e▸q)) (fun e=>(H.ne _).2.2.2.2.2 ⟨q,e⟩) (.inr (.inr (.inr (.inl q)))))
 ·exact Kg
 ·exact .inl rfl
 ·exact .inl rfl
 ·exact .inl rfl
 ·exact N9
theorem zf {l:List dA}{s:ByteArray}{r:Int}(h:Yj l s r)(ht:bO l s=none):r= -1:=by
 rcases h with⟨-,e⟩|⟨k,t,-,-,e⟩
 ·exact e
 ·rw[ht]at e;cases e
theorem qY {l:List dA}{s:ByteArray}{r:Int}{t:dA}(h:Yj l s r)(ht:bO l s=some t):∃k:Nat,r=(k:Int)∧l[k]?=some t:=by
 rcases h with⟨e,-⟩|⟨k,t',e1,e2,e3⟩
 ·rw[ht]at e;cases e
 ·rw[ht]at e3;cases e3;exact⟨k,e1,e2⟩
theorem oW {D:Nat}{w:World}{m:RM}{s:RS}(h:RF D w m s)(name:ByteArray)(kind p item:Int)(free:Bool)(hn:s.aN.length≤1099511627776):
  Calls Tryz.prog 48 #[.pointer (some ⟨m.g,0,none⟩),.string name,.int .i64 kind,.int .i64 p,.int .i64 item,.bool free] w fun r w'=>r= .returned (.tuple #[])∧Rk D m (s.FP name kind p item free) w w':=by
 have HT:=hide (xU h name hn);have H:=hide h
 cases ht:bO s.aN name with
 |some t=>
  rw[show s.FP name kind p item free=s.fail p 90 from by unfold RS.FP;rw[ht];rfl];have Jv:=hide ht;clear h ht;go_enter Tryz.func48,Tryz.ntmps48;go_wp2_with (go_at_call 97;refine Aside0.out ?_);refine⟨?_⟩;refine HT.out.mono ?_;rintro e w2 ⟨i,rfl,hix,hb⟩;obtain⟨k,rfl,-⟩:=qY hix Jv.out;have HB:=hide hb;have hk0:(0:Int)≤(k:Int):=aG;clear hix hb;go_wp2_with (go_at_call 98;refine(jg (H.out.below HB.out) p 90).mono ?_;rintro e w3 ⟨rfl,h3,h4⟩;have HQ:=hide (And.intro h3 h4);clear h3 h4);exact JZ
 |none=>
  rw[show s.FP name kind p item free={s with aN:=s.aN++[⟨name,kind,p,item,!free⟩]}from by unfold RS.FP;rw[ht];rfl];have Jv:=hide ht;have HD:=hide (show D≤w.heap.size from Nat.le_trans h.lg (Nat.le_of_lt (ay h.blk)));clear h ht;go_enter Tryz.func48,Tryz.ntmps48;go_wp2_with (go_at_call 97;refine Aside0.out ?_);refine⟨?_⟩;refine HT.out.mono ?_;rintro e w2 ⟨i,rfl,hix,hb⟩;obtain rfl:=zf hix Jv.out;have HB:=hide hb;have hg2:=(hb.block _ (H.out.hi _ (.inl rfl))).trans H.out.blk;have c0:w2.cell? ⟨m.g,0,none⟩=some m.vt:=(aj hg2 0).trans rfl;have HG2:=hide hg2;clear hix hb hg2;go_wp2_with ((with_reducible refine cO (b:= .append) (xs:=#[.tmp 23,.tmp 31]) rfl ?_);at_builtin;refine Aside0.out ?_);refine⟨?_⟩;refine Kd.gP K5 (w0:=w2) D rfl (.tmp 23) (.tmp 31) 25 43 Ab 48 rfl Tryz.underlying25 xI rfl wN aG m.vt (s.aN.map dA.cs) (dA.cs ⟨name,kind,p,item,!free⟩) [.string name,.int .i64 kind,.int .i64 p,.int .i64 item,.bool (!free)] (fun k=>D≤k) (fun _=>False) rfl rfl ⟨rfl,rfl,eU⟩ (fun _ hk=>hk.elim) (fun k hk=>Nat.le_trans HD.out (Nat.le_trans HB.out.size hk)) (Kd.bS H.out.vt HB.out) (Below.refl _ _) (Nat.le_trans HD.out HB.out.size) za ?_;intro v1 w6 h1 h2 h3 h4;obtain⟨A9,c9,rfl,-,-⟩:=Kd.bL h1;rw[show(s.aN.map dA.cs++[dA.cs ⟨name,kind,p,item,!free⟩]).length=s.aN.length+1 from qo]at h1 h4;have qx:w6.heap[m.g]?=_:=(h3.block _ (ay HG2.out) (fun e=>H.out.qj.1 e.symm)).trans HG2.out;have e6:=(aj qx 0).trans rfl;have f6:=aQ qx 0;have HR:=hide (Rk.ags H.out HB.out (Below.refl _ _) h3 h1 h4);clear h1 h2 h3 h4 qx c0;go_wp2;go_end0;exact⟨rfl,HR.out⟩
theorem Ld (s:RS)(p e:Int)(he:e≠0):(s.fail p e).fail p e=s.fail p e:=by
 unfold RS.fail;by_cases h:s.err=0∨p<s.PV
 ·simp only[if_pos h]
  rw[if_neg (by simp[he])]
 ·simp only[if_neg h]
structure GI (D:Nat)(m:RM)(s:RS)(name:ByteArray)(p:Int)(w:World)(i:Nat)(wr:World):Prop where
 fin:RF D wr m (if jE (s.ex.take i) name=true then s.fail p 90 else s)
 fr:Fr (fun k=>k=m.g) w wr
theorem Le (l:List ByteArray)(x s:ByteArray):jE (l++[x]) s=(jE l s||decide (x=s)):=by unfold jE;rw[List.any_append];simp
theorem Iu (s:RS)(p e:Int):(s.fail p e).ex=s.ex∧(s.fail p e).aN=s.aN∧(s.fail p e).uses=s.uses∧(s.fail p e).aT=s.aT∧(s.fail p e).this=s.this∧(s.fail p e).ins=s.ins:=by
 unfold RS.fail;split<;>exact⟨rfl,rfl,rfl,rfl,rfl,rfl⟩
theorem QH (s:RS)(b:Bool)(p e:Int):(if b=true then s.fail p e else s).ex=s.ex:=by split;exact(Iu s p e).1;rfl
theorem qZ {D:Nat}{w:World}{m:RM}{s:RS}(h:RF D w m s)(name:ByteArray)(p:Int)(hn:s.ex.length≤1099511627776):
  Calls Tryz.prog 49 #[.pointer (some ⟨m.g,0,none⟩),.string name,.int .i64 p] w fun r w'=>r= .returned (.tuple #[])∧Rk D m (s.give name p) w w':=by
 obtain⟨n,hnn⟩:∃n,s.ex.length=n:=⟨_,rfl⟩;obtain⟨A,c,hvx,hcap,-⟩:=Kd.bL h.vx;rw[List.length_map,hnn]at hvx hcap;have HVX:=hide hvx;have HN:=hide hnn;have H0:=hide h;have HD:=hide (show D≤w.heap.size from Nat.le_trans h.lg (Nat.le_of_lt (ay h.blk)));rw[hnn]at hn;have Q0:=hide (show GI D m s name p w 0 w from⟨by simpa [jE]using h,Fr.refl _ _⟩);obtain⟨rs,hrs⟩:∃r,s.give name p=r:=⟨_,rfl⟩;have jo:=hide hrs;rw[hrs];have oF:=hide (fun(wr:World) (i:Nat) (q:GI D m s name p w i wr)=>show wr.cell? ⟨m.g,7,none⟩=some (.slice A n c)from by rw[←hvx];exact(aj q.fin.blk 7).trans rfl);clear h hvx hcap hnn hrs;go_enter Tryz.func49,Tryz.ntmps49;go_wp2;go_loopg [6] (n+1) (fun gk v6 wr=>∃i:Nat,i≤n∧n-i<gk∧v6= .int .i64 i∧Aside0 (GI D m s name p w i wr))
 case atStart=>exact⟨0,Nat.zero_le _,aG,rfl,Q0⟩
 case round=>
  obtain⟨i,hi,lS,rfl,Q⟩:=hrel;clear Q0;have c7:=oF.out wr i Q.out;by_cases hlt:i<n
  ·have eY:(i:Int)<(n:Int):=aG
   obtain⟨t,ht⟩:∃t,s.ex[i]?=some t:=⟨_,List.getElem?_eq_getElem mV⟩
   have hC:Kd.C K1 wr A n ((if jE (s.ex.take i) name=true then s.fail p 90 else s).ex.map exC):=by
    have h1:=Q.out.fin.vx;rw[HVX.out]at h1;have h2:=(Kd.gQ h1).2.2;rw[List.length_map,QH,HN.out]at h2;rw[QH];exact h2
   rw[QH]at hC;obtain⟨ad,rfl,hcell⟩:=y9 hC (i:=i) (x:=exC t) OJ hlt;have k0:wr.cell? (ad.add i)=some (.string t):=by have:=hcell 0 _ rfl;rwa[Nat.mul_one,Nat.add_zero]at this
   have HT:=hide ht;clear ht hcell hC;obtain⟨z,hz⟩:∃z,(t.toList==name.toList)=z:=⟨_,rfl⟩;have HZ:=hide hz
   have hin:jE (s.ex.take (i+1)) name=(jE (s.ex.take i) name||z):=by
    rw[bJ HT.out,Le,←hz]
    congr 1
    rw[Bool.eq_iff_iff,beq_iff_eq,decide_eq_true_eq];exact str_eq.symm
   have xV:=hide hin;clear hin
   cases z with
   |true=>
    have hcall:=jg Q.out.fin p 90;have HC:=hide hcall;clear hcall;go_wp2_with (go_at_call 98;refine HC.out.mono ?_;rintro e w3 ⟨rfl,h3,h4⟩;have HQ:=hide (And.intro h3 h4);clear h3 h4)
    have Q2:=hide (show GI D m s name p w (i+1) w3 from⟨by
     rw[xV.out,Bool.or_true,if_pos rfl];have h1:=HQ.out.1
     split at h1
     ·rwa[Ld _ _ _ wN]at h1
     ·exact h1,Q.out.fr.trans HQ.out.2 (fun k hk=> .inl hk)⟩)
    exact aeb
   |false=>
    have Q2:=hide (show GI D m s name p w (i+1) wr from⟨by rw[xV.out,Bool.or_false];exact Q.out.fin,Q.out.fr⟩);go_wp2;exact aeb
  ·obtain rfl:i=n:=aG
   have hq:=Q.out.fin;rw[List.take_of_length_le Np]at hq;obtain⟨s1,hs1⟩:∃s1,(if jE s.ex name=true then s.fail p 90 else s)=s1:=⟨_,rfl⟩;rw[hs1]at hq;have hex:s1.ex=s.ex:=by rw[←hs1];exact QH _ _ _ _
   have hg:s.give name p={s1 with ex:=s1.ex++[name]}:=by
    unfold RS.give;rw[hex,←hs1]
    split<;>rfl
   have HG:=hide hg;have HQ:=hide hq;have Yn:=hide Q.out.fr;have HL:=hide (show s1.ex.length≤1099511627776 from by rw[hex,HN.out];exact hn);have c7':wr.cell? ⟨m.g,7,none⟩=some m.vx:=(aj hq.blk 7).trans rfl;rw[HVX.out]at c7';have Af:=hide (show D≤wr.heap.size from Nat.le_trans hq.lg (Nat.le_of_lt (ay hq.blk)));clear hq hs1 hex hg Q c7 oF;go_wp2_with ((with_reducible refine cO (b:= .append) (xs:=#[.tmp 32,.tmp 34]) rfl ?_);at_builtin;refine Aside0.out ?_);refine⟨?_⟩;refine Kd.gP K1 (w0:=wr) D rfl (.tmp 32) (.tmp 34) 48 9 (.string ⟨#[]⟩) 16 rfl Tryz.underlying48 abR rfl wN aG m.vx (s1.ex.map exC) (exC name) [.string name] (fun k=>D≤k) (fun _=>False) (by rw[HVX.out];rfl) rfl ⟨rfl,rfl,eU⟩ (fun _ hk=>hk.elim) (fun k hk=>Nat.le_trans Af.out hk) HQ.out.vx (Below.refl _ _) Af.out (by rw[List.length_map];have:=HL.out;omega) ?_;intro v1 w6 h1 h2 h3 h4;obtain⟨A9,c9,rfl,-,-⟩:=Kd.bL h1;rw[show(s1.ex.map exC++[exC name]).length=s1.ex.length+1 from qo]at h1 h4;have qx:w6.heap[m.g]?=_:=(h3.block _ (ay HQ.out.blk) (fun e=>HQ.out.qj.2.2.2 e.symm)).trans HQ.out.blk;have e6:=(aj qx 7).trans rfl;have f6:=aQ qx 7;have HR:=hide (Rk.agt HQ.out (Below.refl _ _) (Below.refl _ _) h3 h1 h4);clear h1 h2 h3 h4 qx c7';go_wp2;go_end0;rw[←jo.out,HG.out];exact⟨rfl,Rk.trans (RM.Up.refl _ _) (Yn.out.mono (fun k e=> .inl e)) HR.out⟩
def ajB (l:List kF)(s:ByteArray)(r:Int):Prop:=(kQ l s=none∧r= -1)∨∃(k:Nat) (t:kF),r=(k:Int)∧l[k]?=some t∧kQ l s=some t
theorem Yo {l:List kF}{s:ByteArray}{k:Nat}{t:kF}(hk:l[k]?=some t)(ht:t.name=s)(hn:kQ (l.drop (k+1)) s=none):kQ l s=some t:=by
 unfold kQ at*;have e:l=l.take k++(t::l.drop (k+1)):=by rw[←drop_at hk,List.take_append_drop]
 conv=>lhs;rw[e]
 rw[List.reverse_append,List.reverse_cons,List.append_assoc,List.find?_append,hn];simp[ht]
theorem Yp {l:List kF}{s:ByteArray}{k:Nat}{t:kF}(hk:l[k]?=some t)(ht:t.name≠s)(hn:kQ (l.drop (k+1)) s=none):kQ (l.drop k) s=none:=by
 unfold kQ at*;rw[drop_at hk,List.reverse_cons,List.find?_append,hn];simp[ht]
theorem Oa {D:Nat}{w:World}{m:RM}{s:RS}(h:RF D w m s)(name:ByteArray)(hn:s.aT.length≤1099511627776):
  Calls Tryz.prog 118 #[.pointer (some ⟨m.g,0,none⟩),.string name] w fun r w'=>∃i:Int,r= .returned (.int .i64 i)∧ajB s.aT name i∧Below w.heap.size w w':=by
 obtain⟨n,hnn⟩:∃n,s.aT.length=n:=⟨_,rfl⟩;obtain⟨A,c,Sy,hcap,hC⟩:=Kd.bL h.vl;rw[List.length_map,hnn]at Sy hcap hC;have c0:w.cell? ⟨m.g,2,none⟩=some (.slice A n c):=by rw[←Sy];exact(aj h.blk 2).trans rfl
 have HC:=hide hC;have HN:=hide hnn;rw[hnn]at hn;have hw:wrap64 ((n:Int)-1)=(n:Int)-1:=zy;have Q0:=hide (show kQ (s.aT.drop n) name=none from by rw[List.drop_eq_nil_of_le aG];rfl);clear h hC Sy hcap hnn;go_enter Tryz.func118,Tryz.ntmps118;go_wp2;clear hw;go_loopg [5] (n+1) (fun gk v5 wr=>∃i:Nat,i≤n∧i<gk∧v5= .int .i64 ((i:Int)-1)∧Aside0 (kQ (s.aT.drop i) name=none)∧wr=w)
 case atStart=>exact⟨n,Nat.le_refl _,aG,rfl,Q0,rfl⟩
 case round=>
  obtain⟨i,hi,lS,rfl,Q,rfl⟩:=hrel;clear Q0
  cases i with
  |succ k=>
   have e0:((k+1:Nat):Int)-1=(k:Int):=aG;rw[e0];have hk0:(0:Int)≤(k:Int):=aG;have eY:(k:Int)<(n:Int):=aG;have hw:wrap64 ((k:Int)-1)=(k:Int)-1:=zy;obtain⟨t,ht⟩:∃t,s.aT[k]?=some t:=⟨_,List.getElem?_eq_getElem (by rw[HN.out];omega)⟩;obtain⟨ad,rfl,hcell⟩:=y9 HC.out (i:=k) (x:=t.cs) OJ aG;have k0:wr.cell? (ad.add (k*3))=some (.string t.name):=hcell 0 _ rfl;have HT:=hide ht;clear ht hcell e0;obtain⟨z,hz⟩:∃z,(t.name.toList==name.toList)=z:=⟨_,rfl⟩;have HZ:=hide hz
   cases z with
   |true=>
    have hnm:t.name=name:=str_eq.1 (by simpa using hz);have HX:=hide (Yo HT.out hnm Q.out);clear hnm;go_wp2;go_ret;exact⟨_,rfl,.inr ⟨k,t,rfl,HT.out,HX.out⟩,Below.refl _ _⟩
   |false=>
    have Q2:=hide (Yp HT.out (fun e=>by have h1:=HZ.out;rw[e]at h1;simp at h1) Q.out);go_wp2;go_roundg (k+1)
    case measure=>omega
    case rel=>exact⟨k,aG,aG,by first|rfl|rw[hw],Q2,rfl⟩
  |zero=>
   have e0:((0:Nat):Int)-1= -1:=aG;rw[e0];have Q2:=hide (show kQ s.aT name=none from by have:=Q.out;rwa[List.drop_zero]at this);clear e0;go_wp2;go_ret;exact⟨_,rfl,.inl ⟨Q2.out,rfl⟩,Below.refl _ _⟩
end Go.Proofs.YtldgmneijipbjaaGreatDoor.H
