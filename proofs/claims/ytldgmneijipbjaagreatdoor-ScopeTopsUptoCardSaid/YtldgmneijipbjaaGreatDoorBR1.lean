import Derived.Test.YtldgmneijipbjaaGreatDoorBPB
import Derived.Test.YtldgmneijipbjaaGreatDoorBS1
import Derived.Test.YtldgmneijipbjaaGreatDoorBMac
set_option linter.unusedVariables false
set_option linter.unusedSimpArgs false
set_option maxRecDepth 100000
set_option maxHeartbeats 16000000
namespace Go.Proofs.YtldgmneijipbjaaGreatDoor.H
open Go.RowKit Go.Shelf Go.Lib Go.Proofs.YtldgmneijipbjaaGreatDoorW.PrintWords Go.Proofs.YtldgmneijipbjaaGreatDoorW.PrintLast Go.Proofs.YtldgmneijipbjaaGreatDoorW.PrintMore
open PScopeOwn
def by' (l:List UInt8)(i:Nat):Nat:=(l.getD i 0).toNat
theorem YU (s:ByteArray)(i:Nat):bt s (i:Int)=(by' (bl s) i:Nat):=by
 unfold bt by' bl;rw[Int.toNat_natCast]
 split
 ·rename_i h
  rw[List.getD_eq_getElem?_getD,List.getElem?_eq_getElem (by simpa using h)];rfl
 ·rename_i h
  rw[List.getD_eq_getElem?_getD,List.getElem?_eq_none (by simpa using h)];rfl
theorem xY (l:List UInt8)(i:Nat):by' l i<256:=(l.getD i 0).toNat_lt
theorem pR {v:Int}(h0: -9223372036854775808≤v)(h1:v≤9223372036854775807):wrap64 v=v:=zy
def lastT (n least v:Int):Int×Int:=if v<least∨(v>1114111∨(v≥55296∧v<57344))then(1, -1)else(n,v)
theorem CX (k:Nat)(s:ByteArray)(n least v:Int):av.l0 (k+1) s n least v n=some (lastT n least v):=by
 simp only[av.l0];rw[if_neg aG];unfold lastT
 repeat' split
 all_goals first|rfl|(exfalso;omega)
theorem vv (k:Nat)(s:ByteArray)(n least v:Int)(i:Nat)(h1:(i:Int)<n)(h2:i<s.size)(hv0:0≤v)(hv:v≤2097152)(hi:i≤10):av.l0 (k+1) s n least v (i:Int)=if by' (bl s) i<128∨192≤by' (bl s) i then some (1, -1)else av.l0 k s n least (v*64+(by' (bl s) i:Nat)-128) ((i+1:Nat):Int):=by
 have hb:=xY (bl s) i;simp only[av.l0];rw[if_pos h1,if_pos aG,if_pos aG,YU];rw[pR (v:=((by' (bl s) i:Nat):Int)) aG aG,pR (v:=v*64) aG aG,pR (v:=v*64+(by' (bl s) i:Nat)) aG aG,pR (v:=v*64+(by' (bl s) i:Nat)-128) aG aG,wrap_small aG aG]
 repeat' split
 all_goals first|rfl|(exfalso;omega)
def hdN (n b0 b1 b2 b3:Nat):Int×Int:=
 if b0<128 then(1,b0)
 else if b0<192 then(1, -1)
 else if b0<224 then(if n<2 then(1, -1)else if b1<128∨192≤b1 then(1, -1)else lastT 2 128 (((b0:Int)-192)*64+b1-128))
 else if b0<240 then(if n<3 then(1, -1)else if b1<128∨192≤b1 then(1, -1)else if b2<128∨192≤b2 then(1, -1)else lastT 3 2048 ((((b0:Int)-224)*64+b1-128)*64+b2-128))
 else if b0<248 then(if n<4 then(1, -1)else if b1<128∨192≤b1 then(1, -1)else if b2<128∨192≤b2 then(1, -1)else if b3<128∨192≤b3 then(1, -1)else lastT 4 65536 (((((b0:Int)-240)*64+b1-128)*64+b2-128)*64+b3-128))
 else(1, -1)
theorem YV (k:Nat)(s:ByteArray)(n least v:Int):av.j2 (k+1) s n least v=if(s.size:Int)<n then some (1, -1)else av.l0 k s n least v 1:=by simp only[av.j2]
theorem QJ (k:Nat)(s:ByteArray)(c:Int)(x:Bool):av.j0 (k+1) s c x=if x=true then av.j2 k s 2 128 (wrap64 (c-192))else if c≥224 then av.j1 k s c (decide (c<240))else av.j1 k s c false:=by simp only[av.j0]
theorem YW (k:Nat)(s:ByteArray)(c:Int)(x:Bool):av.j1 (k+1) s c x=if x=true then av.j2 k s 3 2048 (wrap64 (c-224))else if c≥240 then(if c<248 then av.j2 k s 4 65536 (wrap64 (c-240))else some (1, -1))else some (1, -1):=by simp only[av.j1]
theorem head_eq (s:ByteArray)(h:0<s.size):av.f 9 s=some (hdN s.size (by' (bl s) 0) (by' (bl s) 1) (by' (bl s) 2) (by' (bl s) 3)):=by
 have hb0:=xY (bl s) 0;have hb1:=xY (bl s) 1;have hb2:=xY (bl s) 2;have hb3:=xY (bl s) 3;have e0:bt s 0=(by' (bl s) 0:Nat):=YU s 0;obtain⟨b0,q0⟩:∃b,by' (bl s) 0=b:=⟨_,rfl⟩;unfold av.f;rw[if_pos aG,e0,pR aG aG];rw[q0]at hb0⊢;unfold hdN;by_cases c1:b0<128
 ·rw[if_pos aG,if_pos c1]
 rw[if_neg aG,if_neg c1];by_cases c2:b0<192
 ·rw[if_neg aG,if_pos c2]
  rw[QJ,if_neg qo,if_neg aG,YW,if_neg qo,if_neg aG]
 rw[if_pos aG,if_neg c2];by_cases c3:b0<224
 ·rw[if_pos c3,decide_eq_true (show(b0:Int)<224 from aG)]
  rw[QJ,if_pos rfl,pR aG aG,YV];by_cases c4:s.size<2
  ·rw[if_pos aG,if_pos c4]
  refine Uz ?_
  split
  ·rfl
  ·exact CX _ _ _ _ _
 rw[if_neg c3,decide_eq_false (show¬(b0:Int)<224 from aG)];by_cases c5:b0<240
 ·rw[if_pos c5]
  rw[QJ,if_neg qo,if_pos aG,decide_eq_true (show(b0:Int)<240 from aG)];rw[YW,if_pos rfl,pR aG aG,YV];by_cases c4:s.size<3
  ·rw[if_pos aG,if_pos c4]
  refine Uz ?_
  split
  ·rfl
  rw[vv _ _ _ _ _ 2 wN aG aG aG aG]
  split
  ·rfl
  exact CX _ _ _ _ _
 rw[if_neg c5];rw[QJ,if_neg qo,if_pos aG,decide_eq_false (show¬(b0:Int)<240 from aG)];rw[YW,if_neg qo,if_pos aG];by_cases c6:b0<248
 ·rw[if_pos aG,if_pos c6]
  rw[pR aG aG,YV];by_cases c4:s.size<4
  ·rw[if_pos aG,if_pos c4]
  refine Uz ?_
  split
  ·rfl
  rw[vv _ _ _ _ _ 2 wN aG aG aG aG]
  split
  ·rfl
  rw[vv _ _ _ _ _ 3 wN aG aG aG aG]
  split
  ·rfl
  exact CX _ _ _ _ _
 ·rw[if_neg aG,if_neg c6]
def OH (d:Nat×Nat):Int×Int:=if d.1=65533∧d.2=1 then(1, -1)else(d.2,d.1)
theorem agH (n b0 b1 b2 b3:Nat)(h0:b0<256)(h1:b1<256)(h2:b2<256)(h3:b3<256):hdN n b0 b1 b2 b3=OH (decodeN n b0 b1 b2 b3):=by
 have bad:OH (65533,1)=(1, -1):=by unfold OH;rw[if_pos ⟨rfl,rfl⟩]
 unfold hdN;by_cases c1:b0<128
 ·have hd:decodeN n b0 b1 b2 b3=(b0,1):=by unfold decodeN;rw[if_pos c1]
  rw[if_pos c1,hd];unfold OH;rw[if_neg Oi];rfl
 rw[if_neg c1];by_cases c2:b0<192
 ·have hd:decodeN n b0 b1 b2 b3=(65533,1):=um
  rw[if_pos c2,hd,bad]
 rw[if_neg c2];by_cases c3:b0<224
 ·rw[if_pos c3]
  by_cases d1:1<n∧b1/64=2
  ·have hd:decodeN n b0 b1 b2 b3=if b0%32*64+b1%64≥128 then(b0%32*64+b1%64,2)else(65533,1):=by unfold decodeN;rw[if_neg c1,if_pos ⟨aG,d1⟩]
   rw[hd,if_neg aG,if_neg aG];exact Ym
  ·exact YZ
 rw[if_neg c3];by_cases c5:b0<240
 ·rw[if_pos c5]
  by_cases d1:(1<n∧b1/64=2)∧(2<n∧b2/64=2)
  ·have hd:decodeN n b0 b1 b2 b3=if b0%16*4096+b1%64*64+b2%64≥2048∧(b0%16*4096+b1%64*64+b2%64<55296∨(57344≤b0%16*4096+b1%64*64+b2%64∧b0%16*4096+b1%64*64+b2%64≤1114111))then(b0%16*4096+b1%64*64+b2%64,3)else(65533,1):=by unfold decodeN;rw[if_neg c1,if_neg aG,if_pos ⟨aG,d1⟩]
   rw[hd,if_neg aG,if_neg aG,if_neg aG];exact Ym
  ·exact YZ
 rw[if_neg c5];by_cases c6:b0<248
 ·rw[if_pos c6]
  by_cases d1:(1<n∧b1/64=2)∧(2<n∧b2/64=2)∧(3<n∧b3/64=2)
  ·have hd:decodeN n b0 b1 b2 b3=if b0%8*262144+b1%64*4096+b2%64*64+b3%64≥65536∧(b0%8*262144+b1%64*4096+b2%64*64+b3%64<55296∨(57344≤b0%8*262144+b1%64*4096+b2%64*64+b3%64∧b0%8*262144+b1%64*4096+b2%64*64+b3%64≤1114111))then(b0%8*262144+b1%64*4096+b2%64*64+b3%64,4)else(65533,1):=by unfold decodeN;rw[if_neg c1,if_neg aG,if_neg aG,if_pos ⟨aG,d1⟩]
   rw[hd,if_neg aG,if_neg aG,if_neg aG,if_neg aG];exact Ym
  ·exact YZ
 ·have hd:decodeN n b0 b1 b2 b3=(65533,1):=um
  rw[if_neg c6,hd,bad]
theorem Lu (s:ByteArray)(h:0<s.size):av.f 9 s=some (OH (decodeL (bl s))):=by
 rw[head_eq s h,agH _ _ _ _ _ (xY _ _) (xY _ _) (xY _ _) (xY _ _),decodeL_N];have:(bl s).length=s.size:=qo;rw[this];rfl
def Lv (d:Nat×Nat):Bool:=decide (d.1=65533∧d.2=1)
theorem aoZ (d:Nat×Nat)(h:1≤d.2):(OH d).1=(d.2:Nat):=by unfold OH;split<;>simp_all
theorem ao0 (d:Nat×Nat):decide ((OH d).2≥0)=!Lv d:=by
 unfold OH Lv
 split
 ·rename_i h;simp[h]
 ·rename_i h;rw[decide_eq_false h];simp
def CY:Nat→List UInt8→List ByteArray
 |0,_=>[]
 |n+1,l=>if l=[]then[]else⟨(l.take (decodeL l).2).toArray⟩::CY n (l.drop (decodeL l).2)
theorem vw:∀n,CY n []=[]
 |0=>rfl
 |_+1=>by simp[CY]
theorem CZ:∀(n m:Nat) (l:List UInt8),l.length≤n→l.length≤m→CY n l=CY m l
 |0,m,l,hn,_=>by
  have:l=[]:=List.eq_nil_of_length_eq_zero aG;subst this;rw[vw,vw]
 |n+1,0,l,_,hm=>by
  have:l=[]:=List.eq_nil_of_length_eq_zero aG;subst this;rw[vw,vw]
 |n+1,m+1,l,hn,hm=>by
  unfold CY;by_cases hne:l=[]
  ·simp[hne]
  ·have hw:=decodeL_width l
   have hl:0<l.length:=List.length_pos_iff.2 hne;rw[if_neg hne,if_neg hne,CZ n m (l.drop (decodeL l).2) Bn Bn]
def OI (l:List UInt8):List ByteArray:=CY l.length l
theorem AP:OI []=[]:=rfl
theorem uQ (l:List UInt8)(hne:l≠[]):OI l=⟨(l.take (decodeL l).2).toArray⟩::OI (l.drop (decodeL l).2):=by
 have hl:0<l.length:=List.length_pos_iff.2 hne;have hw:=decodeL_width l;obtain⟨n,hn⟩:∃n,l.length=n+1:=⟨l.length-1,aG⟩;unfold OI;rw[hn];show(if l=[]then[]else _)=_;rw[if_neg hne,CZ n (l.drop (decodeL l).2).length _ Bn (Nat.le_refl _)]
theorem ab1 (s:ByteArray)(n:Nat):s.extract 0 n=⟨((bl s).take n).toArray⟩:=by
 apply ByteArray.ext;apply Array.ext';simp[List.extract]
theorem ab2 (s:ByteArray)(n:Nat):bl (s.extract n s.size)=(bl s).drop n:=by
 simp[bl,List.extract];rw[List.take_of_length_le qo]
theorem Lx (m:Nat):∀(s:ByteArray) (acc:List ByteArray) (ok:Bool),s.size≤m→acc.length+s.size≤8796093022207→Ev (fun k=>aU.l0 k s acc ok) (acc++OI (bl s),ok&&validD (bl s)):=by
 induction m with
 |zero=>
  intro s acc ok hs hb;have h0:(bl s).length=s.size:=qo;have e:bl s=[]:=List.eq_nil_of_length_eq_zero aG;exact aec
 |succ m ih=>
  intro s acc ok hs hb;by_cases e:bl s=[]
  ·exact aec
  ·have hpos:0<s.size:=by have:=List.length_pos_iff.2 e;simpa using this
   have hw:=decodeL_width (bl s);have hle:=decodeL_le (bl s) e;have hlen:(bl s).length=s.size:=qo;obtain⟨d,hd⟩:∃d,decodeL (bl s)=d:=⟨_,rfl⟩;rw[hd]at hw hle;have hsz2:(s.extract d.2 s.size).size=s.size-d.2:=qo;have hsz:(s.extract d.2 s.size).size≤m:=aG;have hih:=ih (s.extract d.2 s.size) (acc++[s.extract 0 d.2]) (ok&&!Lv d) hsz (by rw[List.length_append,List.length_singleton];omega);refine Ev.step (f:=fun k=>(av.f k s).bind fun b=>if 0≤b.1 then(if b.1≤(s.size:Int)then(if acc.length<8796093022208 then aU.l0 k (s.extract b.1.toNat s.size) (acc++[s.extract 0 b.1.toNat]) (ok&&decide (b.2≥0))else none)else none)else none) (fun k=>?_) ?_
   ·simp only[aU.l0]
    rw[if_neg (by rw[ByteArray.toList_eq];exact e)]
    cases ok<;>simp
   ·refine Ev.bind (Ev.of (fun k=>av.mono _ k) (Lu s hpos)) ?_
    rw[hd];refine j_ (Ev.congr (f:=fun k=>aU.l0 k (s.extract d.2 s.size) (acc++[s.extract 0 d.2]) (ok&&!Lv d)) (fun k=>?_) hih) ?_
    ·rw[aoZ d hw,if_pos aG,if_pos aG,if_pos aG,ao0,Int.toNat_natCast]
    ·rw[uQ _ e,validD_step _ e,hd,ab2,ab1,List.append_assoc]
     refine Prod.ext rfl ?_;show(ok&&!Lv d&&_)=(ok&&_);unfold Lv;by_cases hb:d.1=65533∧d.2=1
     ·rw[if_pos hb,decide_eq_true hb];simp
     ·rw[if_neg hb,decide_eq_false hb];simp
theorem LA (l:List UInt8)(hne:l≠[])(hok:Lv (decodeL l)=false):decodeL (l.take (decodeL l).2)=decodeL l:=by
 have hle:=decodeL_le l hne;have hb:¬((decodeL l).1=65533∧(decodeL l).2=1):=by unfold Lv at hok;simpa using hok
 obtain⟨d,hd⟩:∃d,decodeL l=d:=⟨_,rfl⟩;rw[hd]at hle hb⊢;rw[decodeL_N]at hd⊢
 have g:∀i,i<d.2→((l.take d.2).getD i 0).toNat=(l.getD i 0).toNat:=fun i hi=>by
  rw[List.getD_eq_getElem?_getD,List.getD_eq_getElem?_getD,List.getElem?_take_of_lt hi]
 have hl:(l.take d.2).length=d.2:=List.length_take_of_le hle;have hl0:0<l.length:=List.length_pos_iff.2 hne;rw[hl];revert hd;have q0:=(l.getD 0 0).toNat_lt;have q1:=(l.getD 1 0).toNat_lt;have q2:=(l.getD 2 0).toNat_lt;have q3:=(l.getD 3 0).toNat_lt;obtain⟨b0,e0⟩:∃b,(l.getD 0 0).toNat=b:=⟨_,rfl⟩;obtain⟨b1,e1⟩:∃b,(l.getD 1 0).toNat=b:=⟨_,rfl⟩;obtain⟨b2,e2⟩:∃b,(l.getD 2 0).toNat=b:=⟨_,rfl⟩;obtain⟨b3,e3⟩:∃b,(l.getD 3 0).toNat=b:=⟨_,rfl⟩;obtain⟨n,hn⟩:∃n,l.length=n:=⟨_,rfl⟩;rw[e0]at q0;rw[e1]at q1;rw[e2]at q2;rw[e3]at q3;rw[hn]at hle hl0⊢;rw[e0,e1,e2,e3];have g0:=g 0;have g1:=g 1;have g2:=g 2;have g3:=g 3;rw[e0]at g0;rw[e1]at g1;rw[e2]at g2;rw[e3]at g3;intro hd
 have hw:1≤d.2:=by
  rw[←hd];unfold decodeN;repeat' split
  all_goals simp
 rw[g0 aG];unfold decodeN at hd⊢;by_cases c1:b0<128
 ·rw[if_pos c1]at hd⊢;exact hd
 rw[if_neg c1]at hd⊢;by_cases d1:b0/32=6∧(1<n∧b1/64=2)
 ·rw[if_pos d1]at hd
  split at hd
  ·have e:d.2=2:=by rw[←hd]
   rw[g1 aG,e,if_pos ⟨d1.1,aG,d1.2.2⟩,if_pos (by assumption)];exact hd
  ·exact QK
 rw[if_neg d1]at hd;by_cases d2:b0/16=14∧(1<n∧b1/64=2)∧(2<n∧b2/64=2)
 ·rw[if_pos d2]at hd
  split at hd
  ·have e:d.2=3:=by rw[←hd]
   rw[g1 aG,g2 aG,e,if_neg aG,if_pos ⟨d2.1,⟨aG,d2.2.1.2⟩,aG,d2.2.2.2⟩,if_pos (by assumption)];exact hd
  ·exact QK
 rw[if_neg d2]at hd;by_cases d3:b0/8=30∧(1<n∧b1/64=2)∧(2<n∧b2/64=2)∧(3<n∧b3/64=2)
 ·rw[if_pos d3]at hd
  split at hd
  ·have e:d.2=4:=by rw[←hd]
   rw[g1 aG,g2 aG,g3 aG,e,if_neg aG,if_neg aG,if_pos ⟨d3.1,⟨aG,d3.2.1.2⟩,⟨aG,d3.2.2.1.2⟩,aG,d3.2.2.2.2⟩,if_pos (by assumption)];exact hd
  ·exact QK
 rw[if_neg d3]at hd;exact QK
theorem ab3 (k:Nat)(v:Int):aJ.f 4 v=some (JW v):=by
 have h:aJ.f 4 v=aY.f 4 v:=rfl;rw[h,letter_eq]
def okP (p:ByteArray):Bool:=Fu false (OH (decodeL (bl p))).2
theorem Y0 (P:List ByteArray)(hP:∀p,p∈P→0<p.size)(hl:P.length≤1099511627776):∀d i:Nat,P.length-i=d→i≤P.length→Ev (fun k=>aD.l0 k P (i:Int)) ((P.drop i).all okP):=by
 intro d
 induction d with
 |zero=>
  intro i hi hle;refine j_ (Ev.step (f:=fun _=>some true) (fun k=>?_) (Ev.now _)) ?_
  ·simp only[aD.l0];rw[if_neg aG]
  ·exact JX
 |succ d ih=>
  intro i hi hle;obtain⟨p,hp⟩:=eO (l:=P) (i:=i) aG;have hrd:iq ByteArray.empty P (i:Int)=p:=Oh;rw[drop_at hp,List.all_cons];obtain⟨c,hc⟩:∃c,OH (decodeL (bl p))=c:=⟨_,rfl⟩;have hok:okP p=Fu false c.2:=by unfold okP;rw[hc]
  rw[hok];refine lD ?_;intro hi2;refine Ev.step (f:=fun k=>(av.f k p).bind fun b=>(aJ.f k b.2).bind fun t=>if t=true then aD.l0 k P ((i+1:Nat):Int)else if b.2=95 then aD.l0 k P ((i+1:Nat):Int)else if b.2=36 then aD.l0 k P ((i+1:Nat):Int)else if b.2≥48 then(if b.2≤57 then aD.l0 k P ((i+1:Nat):Int)else some false)else some false) (fun k=>?_) ?_
  ·simp only[aD.l0]
   rw[if_pos aG,if_pos aG,hrd,hi2]
  ·refine Ev.bind (Ev.of (fun k=>av.mono _ k) (Lu p (hP p (List.mem_of_getElem? hp)))) ?_
   rw[hc];refine Ev.bind (Ev.of (fun k=>aJ.mono _ k) (ab3 0 c.2)) ?_;have hn:=ih (i+1) aG aG
   cases hL:JW c.2 with
   |true=>
    refine j_ (Ev.congr (fun k=>by rw[if_pos rfl]) hn) ?_;unfold Fu;rw[hL];simp
   |false=>
    by_cases h1:c.2=95
    ·refine j_ (Ev.congr (fun k=>by rw[if_neg qo,if_pos h1]) hn) ?_
     unfold Fu;rw[h1];simp
    by_cases h2:c.2=36
    ·refine j_ (Ev.congr (fun k=>by rw[if_neg qo,if_neg h1,if_pos h2]) hn) ?_
     unfold Fu;rw[h2];simp
    by_cases h3:c.2≥48∧c.2≤57
    ·refine j_ (Ev.congr (fun k=>by rw[if_neg qo,if_neg h1,if_neg h2,if_pos h3.1,if_pos h3.2]) hn) ?_
     have:nW c.2=true:=by unfold nW;simp;omega
     unfold Fu;rw[this];simp
    ·refine j_ (Ev.congr (f:=fun _=>some false) (fun k=>?_) (Ev.now _)) ?_
     ·rw[if_neg qo,if_neg h1,if_neg h2]
      by_cases h4:c.2≥48
      ·rw[if_pos h4,if_neg aG]
      ·rw[if_neg h4]
     ·have e1:nW c.2=false:=by
       unfold nW;by_cases h4:48≤c.2
       ·rw[decide_eq_false (show¬c.2≤57 from aG)];simp
       ·rw[decide_eq_false h4];rfl
      have e2:(c.2==95)=false:=Zu;have e3:(c.2==36)=false:=wz;unfold Fu;rw[hL,e1,e2,e3];rfl
theorem ab4 (m:Nat):∀l:List UInt8,l.length≤m→∀p,p∈OI l→0<p.size:=by
 induction m with
 |zero=>
  intro l hl p hp;rw[List.eq_nil_of_length_eq_zero (by omega:l.length=0),AP]at hp
  cases hp
 |succ m ih=>
  intro l hl p hp;by_cases e:l=[]
  ·rw[e,AP]at hp;cases hp
  ·have hw:=decodeL_width l
   have hl0:0<l.length:=List.length_pos_iff.2 e;rw[uQ l e]at hp;rcases List.mem_cons.1 hp with rfl|hp
   ·show 0<(l.take (decodeL l).2).toArray.size
    rw[List.size_toArray,List.length_take];omega
   ·exact ih _ Bn p hp
theorem ab5 (m:Nat):∀l:List UInt8,l.length≤m→validD l=true→(OI l).all okP=Fv false l:=by
 induction m with
 |zero=>intro l hl hv;rw[List.eq_nil_of_length_eq_zero (by omega:l.length=0)];rfl
 |succ m ih=>
  intro l hl hv;by_cases e:l=[]
  ·rw[e];rfl
  ·have hw:=decodeL_width l
   have hl0:0<l.length:=List.length_pos_iff.2 e;rw[validD_step l e]at hv;have hb:¬((decodeL l).1=65533∧(decodeL l).2=1):=fun h=>by rw[if_pos h]at hv;cases hv
   rw[if_neg hb]at hv;rw[uQ l e,List.all_cons,tZ _ l e,ih _ Bn hv]
   have hk:okP ⟨(l.take (decodeL l).2).toArray⟩=Fu false ((decodeL l).1:Nat):=by
    unfold okP;rw[show bl ⟨(l.take (decodeL l).2).toArray⟩=l.take (decodeL l).2 from rfl,LA l e (decide_eq_false hb)];unfold OH;rw[if_neg hb]
   rw[hk]
theorem Y1 (v:Int)(h0:48≤v)(h1:v≤57):JW v=false:=by
 have:v=48∨v=49∨v=50∨v=51∨v=52∨v=53∨v=54∨v=55∨v=56∨v=57:=aG;rcases this with rfl|rfl|rfl|rfl|rfl|rfl|rfl|rfl|rfl|rfl<;>rfl
theorem SH (l:List UInt8)(hne:l≠[]):Fv true l=(!nW (by' l 0:Nat)&&Fv false l):=by
 rw[tZ true l hne,tZ false l hne]
 have hd:nW ((decodeL l).1:Nat)=nW (by' l 0:Nat):=by
  by_cases h:by' l 0<128
  ·have h':(l.getD 0 0).toNat<128:=h
   have:(decodeL l).1=by' l 0:=by rw[decodeL_N];unfold decodeN;rw[if_pos h'];rfl
   rw[this]
  ·have h1:128≤(decodeL l).1:=by
    have h':¬(l.getD 0 0).toNat<128:=h;rw[decodeL_N];unfold decodeN;rw[if_neg h']
    repeat' split
    all_goals (try simp only)
    all_goals omega
   have e1:nW ((decodeL l).1:Nat)=false:=by unfold nW;rw[decide_eq_false (show¬(((decodeL l).1:Nat):Int)≤57 from aG)];simp
   have e2:nW (by' l 0:Nat)=false:=by unfold nW;rw[decide_eq_false (show¬((by' l 0:Nat):Int)≤57 from aG)];simp
   rw[e1,e2]
 rw[←hd];obtain⟨v,hv⟩:∃v:Int,(((decodeL l).1:Nat):Int)=v:=⟨_,rfl⟩;rw[hv];unfold Fu
 cases hg:nW v with
 |false=>simp
 |true=>
  have h2:48≤v∧v≤57:=by unfold nW at hg;simpa using hg
  have e1:(v==95)=false:=Oi;have e2:(v==36)=false:=Oi;rw[Y1 v h2.1 h2.2,e1,e2];simp
theorem LC (s:ByteArray)(hs:s.size≤1099511627776):Ev (fun k=>aD.f k s) (eP s):=by
 have hr:=Lx s.size s [] true (Nat.le_refl _) Oi;rw[List.nil_append,Bool.true_and]at hr;have hlen:(bl s).length=s.size:=qo
 have hpl:∀m (l:List UInt8),l.length≤m→(OI l).length≤l.length:=by
  intro m
  induction m with
  |zero=>intro l hl;rw[List.eq_nil_of_length_eq_zero (by omega:l.length=0)];exact Nat.le_refl _
  |succ m ih=>
   intro l hl;by_cases e:l=[]
   ·rw[e];exact Nat.le_refl _
   ·have hw:=decodeL_width l
    have hl0:0<l.length:=List.length_pos_iff.2 e;rw[uQ l e,List.length_cons];have:=ih (l.drop (decodeL l).2) Bn;rw[List.length_drop]at this;omega
 refine Ev.bind (f:=fun k b=>if b.2=true then(if(b.1.length:Int)=0 then aD.j0 k b.1 true else if 0<(s.size:Int)then(if bt s 0≥48 then aD.j0 k b.1 (decide (bt s 0≤57))else aD.j0 k b.1 false)else none)else aD.j0 k b.1 true) (Ev.congr (fun k=>rfl) hr) ?_;have hj:∀P,Ev (fun k=>aD.j0 k P true) false:=fun P=>Ev.step (f:=fun _=>some false) (fun k=>by simp only[aD.j0,if_true]) (Ev.now _);unfold eP eG
 cases hv:validD (bl s)with
 |false=>
  refine j_ (Ev.congr (fun k=>qo) (hj (OI (bl s)))) ?_;simp
 |true=>
  by_cases e:bl s=[]
  ·refine j_ (Ev.congr (fun k=>by simp[e,AP]) (hj (OI (bl s)))) ?_
   simp[e]
  ·have hpos:0<s.size:=by have:=List.length_pos_iff.2 e;omega
   have hne:¬((OI (bl s)).length:Int)=0:=by rw[uQ _ e,List.length_cons];omega
   have hb0:bt s 0=(by' (bl s) 0:Nat):=YU s 0;have hem:(bl s).isEmpty=false:=by simpa using e
   rw[hem,SH _ e]
   have hl0:Ev (fun k=>aD.j0 k (OI (bl s)) false) (Fv false (bl s)):=by
    rw[←ab5 _ _ (Nat.le_refl _) hv];refine Ev.step (f:=fun k=>aD.l0 k (OI (bl s)) 0) (fun k=>by simp only[aD.j0];rw[if_neg qo]) ?_;have:=Y0 (OI (bl s)) (ab4 _ _ (Nat.le_refl _)) (by have:=hpl _ (bl s) (Nat.le_refl _);omega) _ 0 rfl (Nat.zero_le _)
    rwa[List.drop_zero]at this
   by_cases h48:bt s 0≥48
   ·by_cases h57:bt s 0≤57
    ·refine j_ (Ev.congr (fun k=>by simp only[if_true];rw[if_neg hne,if_pos aG,if_pos h48,decide_eq_true h57]) (hj (OI (bl s)))) ?_
     have:nW (by' (bl s) 0:Nat)=true:=by unfold nW;simp;omega
     rw[this];simp
    ·refine j_ (Ev.congr (fun k=>by simp only[if_true];rw[if_neg hne,if_pos aG,if_pos h48,decide_eq_false h57]) hl0) ?_
     have:nW (by' (bl s) 0:Nat)=false:=by unfold nW;rw[decide_eq_false (show¬((by' (bl s) 0:Nat):Int)≤57 from aG)];simp
     rw[this];simp
   ·refine j_ (Ev.congr (fun k=>by simp only[if_true];rw[if_neg hne,if_pos aG,if_neg h48]) hl0) ?_
    have:nW (by' (bl s) 0:Nat)=false:=by unfold nW;rw[decide_eq_false (show¬48≤((by' (bl s) 0:Nat):Int)from aG)];simp
    rw[this];simp
theorem m_ (s:ByteArray)(hs:s.size≤1099511627776)(w:World):Calls Tryz.prog 87 #[.string s] w (aH w (eP s)):=by
 obtain⟨k,hk⟩:=(LC s hs).rounds;exact j4.calls k s _ w (by unfold j4.f;rw[hk];rfl)
theorem su (s:ByteArray)(hs:s.size≤1099511627776)(w:World):Calls Tryz.prog 85 #[.string s] w (aH w (eG s)):=by
 have hr:=Lx s.size s [] true (Nat.le_refl _) Oi;obtain⟨k,hk⟩:=hr.rounds;refine jM.calls k s _ w ?_;unfold jM.f aU.f;rw[hk];simp[eG]
theorem aj8 (l:List ByteArray)(s:ByteArray)(hl:l.length≤1099511627776):∀d i:Nat,l.length-i=d→i≤l.length→Ev (fun k=>dx.l0 k s l (i:Int)) (jE (l.drop i) s):=by
 intro d
 induction d with
 |zero=>
  intro i hi hle;refine j_ (Ev.step (f:=fun _=>some false) (fun k=>?_) (Ev.now _)) ?_
  ·simp only[dx.l0];rw[if_neg aG]
  ·exact JX
 |succ d ih=>
  intro i hi hle;obtain⟨p,hp⟩:=eO (l:=l) (i:=i) aG;have hrd:iq ByteArray.empty l (i:Int)=p:=Oh;refine lD ?_;intro hi2;rw[drop_at hp];by_cases e:p=s
  ·refine j_ (Ev.step (f:=fun _=>some true) (fun k=>?_) (Ev.now _)) ?_
   ·simp only[dx.l0];rw[if_pos aG,if_pos aG,hrd,if_pos (by rw[e])]
   ·simp[jE,e]
  ·refine j_ (Ev.step (f:=fun k=>dx.l0 k s l ((i+1:Nat):Int)) (fun k=>?_) (ih (i+1) aG aG)) ?_
   ·simp only[dx.l0];rw[if_pos aG,if_pos aG,hrd,if_neg (fun q=>e (str_eq.1 q)),hi2]
   ·simp[jE,e]
theorem IU (l:List ByteArray)(s:ByteArray)(hl:l.length≤1099511627776)(A:Option Addr)(c:Nat)(hc:l.length≤c)(w:World)(h:Kd.C Kd.string w A l.length l):Calls Tryz.prog 89 #[.string s,.slice A l.length c] w fun e w'=>e= .returned (.bool (jE l s))∧bU w w':=by
 obtain⟨k,hk⟩:=(aj8 l s hl l.length 0 aG aG).rounds;rw[List.drop_zero]at hk;exact dx.calls k s A c l _ w h hc hk
def oZ:List ByteArray:=[(⟨#[108,101,116]⟩:ByteArray),(⟨#[99,111,110,115,116]⟩:ByteArray),(⟨#[102,117,110,99,116,105,111,110]⟩:ByteArray),(⟨#[99,108,97,115,115]⟩:ByteArray),(⟨#[105,102]⟩:ByteArray),(⟨#[101,108,115,101]⟩:ByteArray),(⟨#[119,104,105,108,101]⟩:ByteArray),(⟨#[114,101,116,117,114,110]⟩:ByteArray),(⟨#[116,104,114,111,119]⟩:ByteArray),(⟨#[110,101,119]⟩:ByteArray),(⟨#[116,104,105,115]⟩:ByteArray),(⟨#[110,117,108,108]⟩:ByteArray),(⟨#[117,110,100,101,102,105,110,101,100]⟩:ByteArray),(⟨#[116,114,117,101]⟩:ByteArray),(⟨#[102,97,108,115,101]⟩:ByteArray),(⟨#[116,121,112,101,111,102]⟩:ByteArray),(⟨#[105,109,112,111,114,116]⟩:ByteArray),(⟨#[101,120,112,111,114,116]⟩:ByteArray),(⟨#[100,101,102,97,117,108,116]⟩:ByteArray)]
theorem OM (s:ByteArray):jE oZ s=jE kr s:=by
 have h1:(oZ.all fun t=>jE kr t)=true:=wN;have h2:(kr.all fun t=>jE oZ t)=true:=wN;rw[Bool.eq_iff_iff,kV,kV];exact⟨fun h=>kV.1 (List.all_eq_true.1 h1 s h),fun h=>kV.1 (List.all_eq_true.1 h2 s h)⟩
theorem ab6 (s:ByteArray):Ev (fun k=>bF.f k s) (jE kr s):=by
 rw[←OM]
 have key:∀d i:Nat,oZ.length-i=d→i≤oZ.length→Ev (fun k=>bF.l0 k s oZ (i:Int)) (jE (oZ.drop i) s):=by
  intro d
  induction d with
  |zero=>
   intro i hi hle;refine j_ (Ev.step (f:=fun _=>some false) (fun k=>?_) (Ev.now _)) ?_
   ·simp only[bF.l0];rw[if_neg aG]
   ·exact JX
  |succ d ih=>
   intro i hi hle;have hl:oZ.length=19:=rfl;obtain⟨p,hp⟩:=eO (l:=oZ) (i:=i) aG;have hrd:iq ByteArray.empty oZ (i:Int)=p:=Oh;refine lD ?_;intro hi2;rw[drop_at hp];by_cases e:p=s
   ·refine j_ (Ev.step (f:=fun _=>some true) (fun k=>?_) (Ev.now _)) ?_
    ·simp only[bF.l0];rw[if_pos aG,if_pos aG,hrd,if_pos (by rw[e])]
    ·simp[jE,e]
   ·refine j_ (Ev.step (f:=fun k=>bF.l0 k s oZ ((i+1:Nat):Int)) (fun k=>?_) (ih (i+1) aG aG)) ?_
    ·simp only[bF.l0];rw[if_pos aG,if_pos aG,hrd,if_neg (fun q=>e (str_eq.1 q)),hi2]
    ·simp[jE,e]
 have:=key _ 0 rfl (Nat.zero_le _)
 rwa[List.drop_zero]at this
theorem jy (s:ByteArray)(hs:s.size≤1099511627776)(w:World):Calls Tryz.prog 13 #[.string s] w (aH w (nH s)):=by
 have h:Ev (fun k=>mF.f k s) (nH s):=by
  refine Ev.bind (f:=fun k t=>if t=true then(bF.f k s).bind fun t=>some (!t)else some false) (LC s hs) ?_;unfold nH
  cases eP s with
  |false=>exact Ev.congr (fun k=>qo) (Ev.now _)
  |true=>exact Ev.congr (fun k=>qo) (Ev.bind (f:=fun _ t=>some (!t)) (ab6 s) (j_ (Ev.now _) qo))
 obtain⟨k,hk⟩:=h.rounds;exact mF.calls k s _ w hk
end Go.Proofs.YtldgmneijipbjaaGreatDoor.H
