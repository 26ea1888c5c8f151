import Derived.Test.YtldgmneijipbjaaGreatDoorBL1
import Derived.Test.YtldgmneijipbjaaGreatDoorBQ3
import Derived.Test.YtldgmneijipbjaaGreatDoorBPC
import Derived.Test.YtldgmneijipbjaaGreatDoorBMac
set_option linter.unusedVariables false
set_option linter.unusedSimpArgs false
set_option maxRecDepth 100000
set_option maxHeartbeats 16000000
namespace Go.Proofs.YtldgmneijipbjaaGreatDoor.H
open Go.RowKit Go.Shelf Go.Proofs.YtldgmneijipbjaaGreatDoorW.PrintWords Go.Proofs.YtldgmneijipbjaaGreatDoorW.PrintLast Go.Proofs.YtldgmneijipbjaaGreatDoorW.PrintMore
open PScopeOwn
theorem CO (s:ByteArray)(w:World)(ht:jU w):Calls Tryz.prog 14 #[.string s] w fun e w'=>∃A c,e= .returned (.agg #[.int .i64 47,.string ⟨#[]⟩,.int .i64 0,.slice A 1 c])∧Rd w' (oo s) A c∧Below w.heap.size w w':=by
 refine(j6.calls s 47 ⟨#[]⟩ 0 [⟨6,s,0,[]⟩] w rfl).mono ?_;exact ad5
theorem abS (s:ByteArray)(n:Int)(w:World)(ht:jU w):Calls Tryz.prog 15 #[.string s,.int .i64 n] w fun e w'=>∃A c,e= .returned (.agg #[.int .i64 40,.string s,.int .i64 n,.slice A 2 c])∧Rd w' (jl s n) A c∧Below w.heap.size w w':=by
 refine(kX.calls s n 40 s n [⟨14,⟨#[]⟩,0,[]⟩,⟨1,⟨#[]⟩,1,[]⟩] w rfl).mono ?_;exact ad5
theorem ad6 {W:World}{b:Nat}{l:List Tr}{cells:Array Value}(hl:l.length≤1048576)(h:W.heap[b]?=some (.cells cells 24 (0,0)))
  (hc:∀j y,l[j]?=some y→∃A c,Rd W y A c∧∀i u,(Ao y A c)[i]?=some u→cells[j*4+i]?=some u):Kd.C KT W (some ⟨b,0,none⟩) l.length l:=by
 refine⟨rfl,aG,fun _=>⟨_,rfl,fun j p hp=>?_⟩⟩;obtain⟨A,c,hr,hu⟩:=hc j p hp;refine⟨Ao p A c,rfl,EZ W p hr.cap hr.kids,fun i u hi=>?_⟩;show W.cell? ((⟨b,0,none⟩:Addr).add (j*4+i))=_;rw[add_plain,aj h];exact hu i u hi
theorem Iy (m:Nat)(hm:m≤1099511627776):∀x:Tr,(∀y,y∈flat x→y.f3.length≤m∧y.f1.size≤m)→Fit x
 |⟨k,s,n,l⟩,h=> .mk _ (by have:=(h _ (mem_root _)).1;omega) (by have:=(h _ (mem_root _)).2;omega) (fun y hy=>Iy m hm y (fun z hz=>h z (by rw[flat];exact List.mem_cons_of_mem _ (oC.2 ⟨y,hy,hz⟩))))
termination_by x=>SizeOf.sizeOf x
decreasing_by exact fJ hy
theorem abT:Fit KU:=Iy 10 wN _ (by simp[KU,jl,oo,flat,aM,sA,wu];decide)
theorem abU:Fit QE:=Iy 10 wN _ (by simp[QE,oo,flat,aM,sX];decide)
theorem agx:posR KU=0∧oV KU=0∧ig KU=[⟨sA,40,1,0,true⟩]∧fZ KU=[⟨5,3,1,sA,false⟩,⟨7,1,0,wu,false⟩]:=by
 have hf:jw KU=true:=by unfold jw;rw[XQ];rfl
 refine⟨by unfold posR;rw[if_pos hf,if_pos AL],by unfold oV;rw[if_pos hf,AL],by unfold ig;rw[if_pos ⟨hf,AL⟩,XT],by unfold fZ;rw[if_pos ⟨hf,AL⟩,XU]⟩
theorem Yw:posR QE=2∧oV QE=91:=by
 have hf:jw QE=true:=by unfold jw;rw[XR];rfl
 refine⟨by unfold posR;rw[if_pos hf,QF,abN];rfl,by unfold oV;rw[if_pos hf,QF]⟩
theorem Yx {x:Tr}(h:oV x=0):(eT x=5∨eT x=6)∧(fC x).err=0∧ig x=(fC x).aN∧fZ x=(fC x).uses:=by
 unfold oV at h;by_cases hf:jw x=true
 ·rw[if_pos hf]at h
  exact⟨by unfold jw at hf;simpa using hf,h,by unfold ig;rw[if_pos ⟨hf,h⟩],by unfold fZ;rw[if_pos ⟨hf,h⟩]⟩
 ·rw[if_neg hf]at h;cases h
theorem RV.rows {w w':World}{x:Tr}{tv uv:Value}(h:RV w x tv uv w'):∃At ct Au cu,tv= .slice At (ig x).length ct∧uv= .slice Au (fZ x).length cu∧∀W,Below w'.heap.size w' W→Kd.C K5 W At (ig x).length ((ig x).map dA.cs)∧Kd.C K5 W Au (fZ x).length ((fZ x).map bV.cs):=by
 exact ad7
theorem Yy {w:World}{ad:Addr}{n:Nat}{l:List ByteArray}(h:Kd.C Kd.string w (some ad) n l)(hn:0<n){k:Nat}{s:ByteArray}(ht:l[k]?=some s):w.cell? (ad.add k)=some (.string s):=by
 obtain⟨JB,e,hg⟩:=h.2.2 hn
 cases e
 obtain⟨cs,h1,h2,h3⟩:=hg k s ht;have e:cs=[.string s]:=h2;have:=h3 0 (.string s) (by rw[e];rfl);rw[show Kd.string.sz=1 from rfl,Nat.mul_one,Nat.add_zero]at this;exact this
theorem Yz (ad:Addr):ad.add (1*5)=⟨ad.block,ad.off+5,none⟩:=by unfold Addr.add;simp
theorem zh {w:World}{ad:Addr}{n:Nat}{l:List dA}(h:Kd.C K5 w (some ad) n (l.map dA.cs))(hn:l.length=n){k:Nat}{t:dA}(ht:l[k]?=some t):w.cell? (ad.add (k*5))=some (.string t.name)∧w.cell? ⟨(ad.add (k*5)).block,(ad.add (k*5)).off+1,none⟩=some (.int .i64 t.kind)∧w.cell? ⟨(ad.add (k*5)).block,(ad.add (k*5)).off+2,none⟩=some (.int .i64 t.pos)∧w.cell? ⟨(ad.add (k*5)).block,(ad.add (k*5)).off+3,none⟩=some (.int .i64 t.item)∧w.cell? ⟨(ad.add (k*5)).block,(ad.add (k*5)).off+4,none⟩=some (.bool t.cst):=by
 obtain⟨JB,e,q⟩:=Ob h ht hn
 cases e
 exact q
theorem zl {w:World}{ad:Addr}{n:Nat}{l:List bV}(h:Kd.C K5 w (some ad) n (l.map bV.cs))(hn:l.length=n){k:Nat}{t:bV}(ht:l[k]?=some t):w.cell? (ad.add (k*5))=some (.int .i64 t.pos)∧w.cell? ⟨(ad.add (k*5)).block,(ad.add (k*5)).off+1,none⟩=some (.int .i64 t.kind)∧w.cell? ⟨(ad.add (k*5)).block,(ad.add (k*5)).off+2,none⟩=some (.int .i64 t.decl)∧w.cell? ⟨(ad.add (k*5)).block,(ad.add (k*5)).off+3,none⟩=some (.string t.name)∧w.cell? ⟨(ad.add (k*5)).block,(ad.add (k*5)).off+4,none⟩=some (.bool t.typed):=by
 have hk:=(List.getElem?_eq_some_iff.1 ht).1;obtain⟨JB,e,hc⟩:=y9 h (i:=k) (x:=t.cs) OJ aG
 cases e
 exact⟨hc 0 _ rfl,Bo,Ns,yS,by rw[←lF _ _ 4 aG];exact hc 4 _ rfl⟩
theorem oG (w:World)(ht:jU w):Calls Tryz.prog 9 #[] w (aH w true):=by
 have HT:=hide ht;clear ht;go_enter Tryz.func9,Tryz.ntmps9;go_wp2_with (go_at_call 15;refine Aside0.out ?_);refine⟨?_⟩;refine(abS ⟨#[97]⟩ 1 w HT.out).mono ?_;rintro e w1 ⟨A1,c1,rfl,r1,h1⟩;have R1:=hide r1;have B1:=hide h1;clear r1 h1;go_wp2_with (go_at_call 14;refine Aside0.out ?_);refine⟨?_⟩;refine(CO ⟨#[97]⟩ w1 (HT.out.below B1.out)).mono ?_;rintro e w2 ⟨A2,c2,rfl,r2,h2⟩;have R12:=hide (R1.out.below h2);have R2:=hide r2;have B2:=hide (B1.out.trans (h2.mono B1.out.size));clear r2 h2 R1 B1;go_wp2_with (go_at_call 14;refine Aside0.out ?_);refine⟨?_⟩;refine(CO ⟨#[112,114,105,110,116]⟩ w2 (HT.out.below B2.out)).mono ?_;rintro e w3 ⟨A3,c3,rfl,r3,h3⟩;have R13:=hide (R12.out.below h3);have R23:=hide (R2.out.below h3);have R3:=hide r3;have B3:=hide (B2.out.trans (h3.mono B2.out.size));clear r3 h3 R12 R2 B2;go_wp2_with (go_at_call 7;refine Aside0.out ?_);refine⟨?_⟩;obtain⟨W4,KW⟩:∃W4,((w3.alloc (.cells #[.int .i64 40,.string ⟨#[97]⟩,.int .i64 1,.slice A1 2 c1,.int .i64 47,.string ⟨#[]⟩,.int .i64 0,.slice A2 1 c2,.int .i64 47,.string ⟨#[]⟩,.int .i64 0,.slice A3 1 c3] 24)).alloc (.cells #[.int .i64 68,.string ⟨#[]⟩,.int .i64 0,.slice (some ⟨w3.heap.size,0,none⟩) 3 3] 24))=W4:=⟨_,rfl⟩;have hb4:Below w3.heap.size w3 W4:=by rw[←KW];exact au (au (Below.refl _ _) _) _
 have n0:W4.heap[w3.heap.size]?=some (.cells #[.int .i64 40,.string ⟨#[97]⟩,.int .i64 1,.slice A1 2 c1,.int .i64 47,.string ⟨#[]⟩,.int .i64 0,.slice A2 1 c2,.int .i64 47,.string ⟨#[]⟩,.int .i64 0,.slice A3 1 c3] 24 (0,0)):=by rw[←KW];exact dh (aR w3 _) _
 rw[KW]
 have HC:=hide (show Rd W4 KU (some ⟨w3.heap.size,0,none⟩) 3 from by
  refine⟨ad6 wN n0 (fun j y hj=>?_),wN,HT.out.below (B3.out.trans (hb4.mono B3.out.size))⟩
  match j with
  |0=>
   obtain rfl:jl sA 1=y:=by simpa [KU]using hj
   exact⟨A1,c1,R13.out.below hb4,fun i u hu=>by match i with|0|1|2|3=>simpa [jl]using hu|i+4=>simp at hu⟩
  |1=>
   obtain rfl:oo sA=y:=by simpa [KU]using hj
   exact⟨A2,c2,R23.out.below hb4,fun i u hu=>aae⟩
  |2=>
   obtain rfl:oo wu=y:=by simpa [KU]using hj
   exact⟨A3,c3,R3.out.below hb4,fun i u hu=>by match i with|0|1|2|3=>simpa [oo,wu]using hu|i+4=>simp at hu⟩
  |j+3=>simp[KU]at hj)
 have B4:=hide (B3.out.trans (hb4.mono B3.out.size));clear KW hb4 n0 R13 R23 R3 B3;refine(vo abT (by rw[abL];decide) (some ⟨w3.heap.size,0,none⟩) 3 W4 HC.out).mono ?_;rintro e w5 ⟨tv,uv,rfl,hv⟩;obtain⟨At,ct,Au,cu,rfl,rfl,hrow⟩:=hv.rows;obtain⟨p0,p1,p2,p3⟩:=agx;rw[p0,p1];rw[p2,p3]at hrow⊢;have B5:=hide (B4.out.trans (hv.low.mono B4.out.size));have HR:=hide hrow;clear hv hrow p0 p1 p2 p3 B4 HC;go_wp2_with (go_at_call 14;refine Aside0.out ?_);refine⟨?_⟩;obtain⟨W6,hW6⟩:∃W6,w5.alloc (.cells #[.slice At 1 ct,.slice Au 2 cu] 28)=W6:=⟨_,rfl⟩;have n5:W6.heap[w5.heap.size]?=some (.cells #[.slice At 1 ct,.slice Au 2 cu] 28 (0,0)):=by rw[←hW6];exact aR w5 _
 have hb6:Below w5.heap.size w5 W6:=by rw[←hW6];exact au (Below.refl _ _) _
 rw[hW6];obtain⟨Ol,rfl⟩:=kZ (HR.out w5 (Below.refl _ _)).1 wN;obtain⟨adu,rfl⟩:=kZ (HR.out w5 (Below.refl _ _)).2 wN
 have HX:=hide (fun(W:World) (hW:Below W6.heap.size W6 W)=>show(W.cell? ⟨w5.heap.size,0,none⟩=some (.slice (some Ol) 1 ct)∧W.cell? ⟨w5.heap.size,1,none⟩=some (.slice (some adu) 2 cu))∧Kd.C K5 W (some Ol) 1 _∧Kd.C K5 W (some adu) 2 _ from by
  have m0:=(hW.block _ (ay n5)).trans n5;have q:=HR.out W (hb6.trans (hW.mono hb6.size));exact⟨⟨(aj m0 0).trans rfl,(aj m0 1).trans rfl⟩,q.1,q.2⟩)
 have B6:=hide (B5.out.trans (hb6.mono B5.out.size));clear hW6 n5 hb6 B5 HR;refine(CO ⟨#[120]⟩ W6 (HT.out.below B6.out)).mono ?_;rintro e w7 ⟨A7,c7,rfl,r7,h7⟩;have R7:=hide r7;have B7:=hide h7;clear r7 h7;go_wp2_with (go_at_call 7;refine Aside0.out ?_);refine⟨?_⟩;have n8:=aR w7 (.cells #[.int .i64 47,.string ⟨#[]⟩,.int .i64 0,.slice A7 1 c7] 24);have hb8:=au (Below.refl w7.heap.size w7) (.cells #[.int .i64 47,.string ⟨#[]⟩,.int .i64 0,.slice A7 1 c7] 24)
 have HC:=hide (show Rd (w7.alloc (.cells #[.int .i64 47,.string ⟨#[]⟩,.int .i64 0,.slice A7 1 c7] 24)) QE (some ⟨w7.heap.size,0,none⟩) 1 from by
  refine⟨ad6 wN n8 (fun j y hj=>?_),wN,(HT.out.below B6.out).below (B7.out.trans (hb8.mono B7.out.size))⟩
  match j with
  |0=>
   obtain rfl:oo sX=y:=by simpa [QE]using hj
   exact⟨A7,c7,R7.out.below hb8,fun i u hu=>aae⟩
  |j+1=>simp[QE]at hj)
 have B8:=hide (B7.out.trans (hb8.mono B7.out.size));clear n8 hb8 R7 B7;refine(vo abU (by rw[abM];decide) (some ⟨w7.heap.size,0,none⟩) 1 _ HC.out).mono ?_;rintro e w9 ⟨tv,uv,rfl,hv⟩;rw[Yw.1,Yw.2];obtain⟨A9,c9,A9',c9',rfl,rfl,-⟩:=hv.rows;obtain⟨n9,hn9⟩:∃n,(ig QE).length=n:=⟨_,rfl⟩;obtain⟨m9,hm9⟩:∃n,(fZ QE).length=n:=⟨_,rfl⟩;rw[hn9,hm9];have B9:=hide (B8.out.trans (hv.low.mono B8.out.size));clear hv B8 HC hn9 hm9;go_wp2_with (go_at_call 16;refine Aside0.out ?_);refine⟨?_⟩;obtain⟨W10,agz⟩:∃W,w9.alloc (.cells #[.slice A9 n9 c9,.slice A9' m9 c9'] 28)=W:=⟨_,rfl⟩;have B10:=hide (show Below W6.heap.size W6 W10 from by rw[←agz];exact B9.out.trans ((au (Below.refl _ _) _).mono B9.out.size));rw[agz];clear agz B9;refine(rX W10).mono ?_;rintro e w11 ⟨A11,c11,rfl,h11,agA,ajI⟩;have B11:=hide (B10.out.trans (ajI.mono B10.out.size));obtain⟨ajJ,rfl⟩:=kZ agA wN;obtain⟨⟨x0,x1⟩,xt,xu⟩:=HX.out w11 B11.out;obtain⟨t0,t1,t2,t3,t4⟩:=zh xt rfl (k:=0) rfl;obtain⟨u0,u1,u2,u3,u4⟩:=zl xu rfl (k:=0) rfl;obtain⟨v0,v1,v2,v3,v4⟩:=zl xu rfl (k:=1) rfl;have s1:w11.cell? ⟨ajJ.block,ajJ.off+1,none⟩=some (.string ⟨#[112,114,105,110,116]⟩):=Yy agA wN (k:=1) rfl;have hbl:blt.length=5:=rfl;rw[hbl];clear ajI B10 HX xt xu HT h11 agA hbl;simp only[Nat.zero_mul,add_zero']at t0 t1 t2 t3 t4 u0 u1 u2 u3 u4;simp only[Yz]at v0 v1 v2 v3 v4;go_wp2;go_ret;exact⟨rfl,B6.out.trans (B11.out.mono B6.out.size)⟩
end Go.Proofs.YtldgmneijipbjaaGreatDoor.H
