import Derived.Test.YtldgmneijipbjaaGreatDoorBQ9
import Derived.Test.YtldgmneijipbjaaGreatDoorBF0
import Derived.Test.YtldgmneijipbjaaGreatDoorBR11
import Derived.Test.YtldgmneijipbjaaGreatDoorBMac
set_option linter.unusedVariables false
set_option linter.unusedSimpArgs false
set_option maxRecDepth 100000
set_option maxHeartbeats 16000000
namespace Go.Proofs.YtldgmneijipbjaaGreatDoor.H
open Go.RowKit Go.Shelf Go.Proofs.YtldgmneijipbjaaGreatDoorW.PrintWords Go.Proofs.YtldgmneijipbjaaGreatDoorW.PrintLast Go.Proofs.YtldgmneijipbjaaGreatDoorW.PrintMore
open PScopeOwn
theorem RRV.rows {w w':World}{x:Tr}{tv uv:Value}(h:RRV w x tv uv w'):∃At ct Au cu,tv= .slice At (qp x).length ct∧uv= .slice Au (qw x).length cu∧∀W,Below w'.heap.size w' W→Kd.C K5 W At (qp x).length ((qp x).map dA.cs)∧Kd.C K5 W Au (qw x).length ((qw x).map bV.cs):=by
 exact ad7
theorem AV {a:Int}(h:a≠0):(a != 0)=true:=by simpa using h
theorem ZC (x:Tr)(hf:Fit x)(A:Option Addr)(c:Nat)(w:World)(h:Rd w x A c)(hb:(flat x).length≤1048576):
  Calls Tryz.prog 10 #[nd x A c,.slice none 0 0] w fun e w'=>∃ad c2,e= .returned (.slice (some ad) (flat x).length c2)∧(flat x).length≤c2∧Kd.C KT w' (some ad) (flat x).length (flat x)∧Below w.heap.size w w':=by
 refine(UJ x hf A c w h hb).mono ?_;rintro e w' ⟨A2,c2,ys,rfl,h1,h2,h3⟩;obtain⟨A3,c3,e3,h4,h5⟩:=Eb h1 h2 (fun k hk=>h3.block k hk);injection e3 with e1 e2 e3
 subst e1 e3;obtain⟨ad,rfl⟩:=kZ h5 (oM x);exact⟨ad,c2,rfl,h4,h5,h3⟩
theorem AX {w:World}{ad:Addr}{l:List Tr}(h:Kd.C KT w (some ad) l.length l)(ht:jU w){i:Nat}{y:Tr}(hy:l[i]?=some y):
  ∃A' c',Rd w y A' c'∧w.cell? (ad.add (i*4))=some (.int .i64 y.f0)∧w.cell? ⟨(ad.add (i*4)).block,(ad.add (i*4)).off+1,none⟩=some (.string y.f1)∧w.cell? ⟨(ad.add (i*4)).block,(ad.add (i*4)).off+2,none⟩=some (.int .i64 y.f2)∧w.cell? ⟨(ad.add (i*4)).block,(ad.add (i*4)).off+3,none⟩=some (.slice A' y.f3.length c'):=by
 obtain⟨JB,A',c',e,q⟩:=jO h ht hy
 cases e
 exact⟨A',c',q⟩
structure LB (w:World)(x:Tr)(A:Option Addr)(n c:Nat)(W:World):Prop where
 x0:W.cell? ⟨w.heap.size,0,none⟩=some (.int .i64 x.f0)
 x1:W.cell? ⟨w.heap.size,1,none⟩=some (.string x.f1)
 x2:W.cell? ⟨w.heap.size,2,none⟩=some (.int .i64 x.f2)
 x3:W.cell? ⟨w.heap.size,3,none⟩=some (.slice A n c)
 rd:Rd W x A c
theorem LB.make {w W:World}{x:Tr}{A:Option Addr}{n c:Nat}(hr:Rd w x A c)(h:Below (w.alloc (.cells #[.int .i64 x.f0,.string x.f1,.int .i64 x.f2,.slice A n c] 24)).heap.size (w.alloc (.cells #[.int .i64 x.f0,.string x.f1,.int .i64 x.f2,.slice A n c] 24)) W):LB w x A n c W:=by
 obtain⟨a,b,d,e,f⟩:=ji h;exact⟨a,b,d,e,hr.below f⟩
theorem LB.below {w W W':World}{x:Tr}{A:Option Addr}{n c:Nat}(h:LB w x A n c W)(hb:Below W.heap.size W W'):LB w x A n c W':=
 ⟨ak hb h.x0,ak hb h.x1,ak hb h.x2,ak hb h.x3,h.rd.below hb⟩
theorem LX (x:Tr):(fC x).uses.length≤(flat x).length:=by
 have h:=(iX x.f3 en0 (iE st0 1 0 x.f3) 1).len;have e:(iE st0 1 0 x.f3).uses=[]:=(u7 x.f3 st0 1 0).uses;rw[e]at h;unfold fC;rw[gD];simp only[List.length_nil,List.length_cons]at h⊢;omega
def atL (l:List Tr)(i:Nat):List Int:=(List.range (l.length+1)).map fun j=>if j≤i then 1+zL (l.take j)else 0
structure AT (w4:World)(gs cs n:Nat)(l:List Tr)(i:Nat)(wr:World):Prop where
 row:(Kd.int .i64).R 3 wr w4.heap.size (fun k=>w4.heap.size≤k) (.slice (some ⟨gs,0,none⟩) (n+1) cs) (atL l i)
 low:Below w4.heap.size w4 wr
 len:l.length=n
section
variable {w4 wr W:World} {gs cs n i j:Nat} {l:List Tr}
theorem AT.any (h:AT w4 gs cs n l i wr)(hj:j≤n):(∃u,wr.cell? ⟨gs,j,none⟩=some u)∧wr.frozen? ⟨gs,j,none⟩=false:=by
 have:=Kd.Ak 0 h.row (j:Int) aG aG;rw[Int.toNat_natCast]at this;exact⟨⟨_,this.1⟩,this.2⟩
theorem AT.below (h:AT w4 gs cs n l i wr)(hb:Below wr.heap.size wr W):AT w4 gs cs n l i W:=⟨Kd.bS h.row hb,h.low.trans (hb.mono h.low.size),h.len⟩
end
theorem L_ (x:Tr):(fC x).aN.length≤(flat x).length:=by
 have h:=(u7 x.f3 st0 1 0).aN;unfold fC;rw[(iX x.f3 en0 _ 1).aN,gD];have e:st0.aN.length=0:=rfl;simp only[List.length_cons];omega
structure SS (g:Nat)(ts:List dA)(us:List bV)(nt nu:Nat)(At Bt Au Bu:Option Addr)(ct dt cu du:Nat)(W:World):Prop where
 a0:W.cell? ⟨g,0,none⟩=some (.slice At nt ct)
 a1:W.cell? ⟨g,1,none⟩=some (.slice Au nu cu)
 b0:W.cell? ⟨g+1,0,none⟩=some (.slice Bt nt dt)
 b1:W.cell? ⟨g+1,1,none⟩=some (.slice Bu nu du)
 h1:Kd.C K5 W At nt (ts.map dA.cs)
 h2:Kd.C K5 W Bt nt (ts.map dA.cs)
 h3:Kd.C K5 W Au nu (us.map bV.cs)
 h4:Kd.C K5 W Bu nu (us.map bV.cs)
theorem SS.below {g nt nu ct dt cu du:Nat}{ts:List dA}{us:List bV}{At Bt Au Bu:Option Addr}{W W':World}(h:SS g ts us nt nu At Bt Au Bu ct dt cu du W)(hb:Below W.heap.size W W'):SS g ts us nt nu At Bt Au Bu ct dt cu du W':=
 ⟨ak hb h.a0,ak hb h.a1,ak hb h.b0,ak hb h.b1,kL h.h1 hb,kL h.h2 hb,kL h.h3 hb,kL h.h4 hb⟩
structure SP (ty:TypeId)(D:Nat)(w0:World)(v:Value)(z:List Value)(xs:List (List Value))(i:Nat)(wr:World):Prop where
 row:K5.R ty wr D (fun k=>D≤k) v (List.replicate i z++xs.drop i)
 fr:Fr (bQ v) w0 wr
theorem SP.len {ty:TypeId}{D n c i:Nat}{A:Option Addr}{w0 wr:World}{z:List Value}{xs:List (List Value)}(h:SP ty D w0 (.slice A n c) z xs i wr)(hi:i≤xs.length):xs.length=n:=by
 obtain⟨h1,-⟩:=Kd.gQ h.row;rw[List.length_append,List.length_replicate,List.length_drop]at h1;omega
theorem Db (x:Tr):(ig x).length≤(flat x).length∧(fZ x).length≤(flat x).length:=by
 unfold ig fZ
 split
 ·exact⟨L_ x,LX x⟩
 ·simp
structure OX (D g3 g6 g9 nt nu:Nat)(ts:List dA)(us:List bV)(tv uv:Value)(Bt Bu Ct Cu:Option Addr)(bt bu ct cu:Nat)(W:World):Prop where
 b3:W.heap[g3]?=some (.cells #[tv,uv] 28 (0,0))
 b6:W.heap[g6]?=some (.cells #[.slice Bt nt bt,.slice Bu nu bu] 28 (0,0))
 b9:W.heap[g9]?=some (.cells #[.slice Ct nt ct,.slice Cu nu cu] 28 (0,0))
 r1:K5.R 43 W g3 (fun k=>g3≤k) (.slice Bt nt bt) (ts.map dA.cs)
 r2:K5.R 37 W g3 (fun k=>g3≤k) (.slice Bu nu bu) (us.map bV.cs)
 r3:K5.R 43 W g3 (fun k=>g3≤k) (.slice Ct nt ct) (ts.map dA.cs)
 r4:K5.R 37 W g3 (fun k=>g3≤k) (.slice Cu nu cu) (us.map bV.cs)
 low:g3≤g6∧g3≤g9∧D≤g3
section
variable {D g3 g6 g9 nt nu:Nat} {ts:List dA} {us:List bV} {tv uv:Value} {Bt Bu Ct Cu:Option Addr} {bt bu ct cu:Nat} {W W':World}
theorem OX.keep {S:Nat→Prop}(h:OX D g3 g6 g9 nt nu ts us tv uv Bt Bu Ct Cu bt bu ct cu W)(hf:Fr S W W')(hS:∀k,S k→D≤k∧k<g3):OX D g3 g6 g9 nt nu ts us tv uv Bt Bu Ct Cu bt bu ct cu W':=by
 obtain⟨l1,l2,l3⟩:=h.low;refine⟨hf.blk h.b3 (fun q=>by have:=hS _ q;omega),hf.blk h.b6 (fun q=>by have:=hS _ q;omega),hf.blk h.b9 (fun q=>by have:=hS _ q;omega),Ug h.r1 hf (fun k a b=>by have:=hS k b;omega),Ug h.r2 hf (fun k a b=>by have:=hS k b;omega),Ug h.r3 hf (fun k a b=>by have:=hS k b;omega),Ug h.r4 hf (fun k a b=>by have:=hS k b;omega),h.low⟩
theorem OX.below (h:OX D g3 g6 g9 nt nu ts us tv uv Bt Bu Ct Cu bt bu ct cu W)(hb:Below W.heap.size W W'):OX D g3 g6 g9 nt nu ts us tv uv Bt Bu Ct Cu bt bu ct cu W':=
 h.keep (S:=fun _=>False) (Fr.of_below hb) (fun _ q=>q.elim)
end
def Df:List Value:=[.string ⟨#[]⟩,.int .i64 0,.int .i64 0,.int .i64 0,.bool false]
def EN:List Value:=[.int .i64 0,.int .i64 0,.int .i64 0,.string ⟨#[]⟩,.bool false]
structure FK (D:Nat)(w0:World)(tv:Value)(LT:List (List Value))(nt:Nat)(b4 b10:Option Nat)(v5:Option Value)(X:World):Prop where
 fr:Fr (bQ tv) w0 X
 n4:∀b,b4=some b→w0.heap.size≤b∧X.heap[b]?=some (.cells (Df++Df).toArray 43 (0,0))
 n10:∀b,b10=some b→w0.heap.size≤b∧X.heap[b]?=some (.cells (EN++EN).toArray 37 (0,0))
 rt:v5=none→K5.R 43 X D (fun k=>D≤k) tv LT
 v5:∀v,v5=some v→∃A c,v= .slice A (nt+2) c
section
variable {D:Nat} {w0 X X':World} {tv v1:Value} {LT:List (List Value)} {nt b:Nat} {b4 b10:Option Nat} {v5:Option Value}
theorem FK.below (h:FK D w0 tv LT nt b4 b10 v5 X)(hb:Below X.heap.size X X'):FK D w0 tv LT nt b4 b10 v5 X':=
 ⟨h.fr.more hb,fun b e=>⟨(h.n4 b e).1,(hb.block _ (ay (h.n4 b e).2)).trans (h.n4 b e).2⟩,fun b e=>⟨(h.n10 b e).1,(hb.block _ (ay (h.n10 b e).2)).trans (h.n10 b e).2⟩,fun e=>Kd.bS (h.rt e) hb,h.v5⟩
end
abbrev acD (x:List Value)(cs:List Value):Prop:=cs=x∧cs.length=4∧∀u∈cs,u.oneCell'=true
structure LN (W:World)(L:List Tr)(ys:List (List Value)):Prop where
 len:ys.length=L.length
 get:∀(j:Nat) (y:Tr),L[j]?=some y→∃A c,ys[j]?=some (Ao y A c)∧Rd W y A c
section
variable {W W1 W2 W4:World} {L:List Tr} {ys:List (List Value)} {z:Tr} {A:Option Addr} {c:Nat}
theorem LN.below (h:LN W L ys)(hb:Below W.heap.size W W1):LN W1 L ys:=⟨h.len,fun j y hj=>by obtain⟨A,c,h1,h2⟩:=h.get j y hj;exact⟨A,c,h1,h2.below hb⟩⟩
theorem LN.snoc (h:LN W L ys)(hz:Rd W z A c):LN W (L++[z]) (ys++[Ao z A c]):=by
 refine⟨by rw[List.length_append,List.length_append,h.len];rfl,fun j y hj=>?_⟩;by_cases hlt:j<L.length
 ·exact Vh
 ·rw[List.getElem?_append_right aG]at hj
  rw[List.getElem?_append_right (by rw[h.len];omega),h.len];have e:j-L.length=0:=by have:=(List.getElem?_eq_some_iff.1 hj).1;simp at this;omega
  rw[e]at hj⊢;obtain rfl:z=y:=by simpa using hj
  exact⟨A,c,rfl,hz⟩
theorem Dh (h:Kd.C KT W A L.length L)(ht:jU W)(hl:L.length≤1099511627776):∃ys,LN W L ys∧fT acD 4 W A L.length ys:=by
 have hk:∀j:Nat,∃cs:List Value,∀y,L[j]?=some y→(∃A' c',cs=Ao y A' c'∧Rd W y A' c')∧∀ad,A=some ad→∀i u,cs[i]?=some u→W.cell? (ad.add (j*4+i))=some u:=by
  intro j;by_cases hj:j<L.length
  ·obtain⟨y,hy⟩:=eO hj
   obtain⟨ad,A',c',e,hr,m0,m1,m2,m3⟩:=jO h ht hy;refine⟨Ao y A' c',fun y' hy'=>?_⟩;rw[hy]at hy'
   cases hy'
   refine⟨⟨A',c',rfl,hr⟩,fun JB e' i u hu=>?_⟩;rw[e]at e'
   cases e'
   match i with
   |0=>simp at hu;subst hu;exact m0
   |1=>simp at hu;subst hu;rw[lF _ _ 1 aG];exact m1
   |2=>simp at hu;subst hu;rw[lF _ _ 2 aG];exact m2
   |3=>simp at hu;subst hu;rw[lF _ _ 3 aG];exact m3
   |i+4=>simp at hu
  ·exact⟨[],fun y hy=>absurd (List.getElem?_eq_some_iff.1 hy).1 hj⟩
 obtain⟨f,hf⟩:=Classical.axiomOfChoice hk;have hget:∀j,j<L.length→((List.range L.length).map f)[j]?=some (f j):=fun j hj=>by rw[List.getElem?_map,List.getElem?_range hj];rfl
 refine⟨(List.range L.length).map f,⟨qo,fun j y hj=>?_⟩,qo,aG,fun hp=>?_⟩
 ·obtain⟨⟨A',c',e,hr⟩,-⟩:=hf j y hj
  exact⟨A',c',by rw[hget j (List.getElem?_eq_some_iff.1 hj).1,e],hr⟩
 ·obtain⟨ad,rfl⟩:=kZ h hp
  refine⟨ad,rfl,fun j p hj=>?_⟩;have hjl:j<L.length:=by have:=(List.getElem?_eq_some_iff.1 hj).1;simpa using this
  obtain⟨y,hy⟩:=eO hjl;obtain⟨⟨A',c',e,hr⟩,hc⟩:=hf j y hy;rw[hget j hjl]at hj
  cases hj
  exact⟨f j,by rw[e];rfl,⟨rfl,by rw[e];rfl,by rw[e];simp[Value.oneCell']⟩,hc ad rfl⟩
theorem acE {base:Nat}{ok:Nat→Prop}{v:Value}(h:KV.R 24 W base ok v ys)(hl:LN W L ys):∃A c,v= .slice A L.length c∧L.length≤c∧Kd.C KT W A L.length L:=by
 obtain⟨A,c,rfl,hc,hC⟩:=Kd.bL h;rw[hl.len]at hc hC;refine⟨A,c,by rw[hl.len],hc,?_⟩;refine⟨rfl,hC.2.1,fun hp=>?_⟩;obtain⟨ad,e,hg⟩:=hC.2.2 hp;refine⟨ad,e,fun j y hj=>?_⟩;obtain⟨A',c',h1,h2⟩:=hl.get j y hj;obtain⟨cs,h3,h4,h5⟩:=hg j _ h1;have hcs:cs=Ao y A' c':=h4.1;subst hcs;exact⟨_,rfl,EZ W y h2.cap h2.kids,h5⟩
theorem grow {v1 v2:Value}(hLN:LN W L ys)(h1:KV.R 24 W1 W.heap.size (fun k=>W.heap.size≤k) v1 ys)(b1:Below W.heap.size W W1)(hR:KT.R 24 W2 W1.heap.size (fun k=>W1.heap.size≤k) (.slice A z.f3.length c) z.f3)
  (g1:KV.R 24 W4 W.heap.size (fun k=>W.heap.size≤k) v2 (ys++[Ao z A c]))(g2:Below W.heap.size W W4)(g3:W2.grownBy W4 v1.ownBlock)(ht:jU W):∃A4 c4,v2= .slice A4 (L++[z]).length c4∧(L++[z]).length≤c4∧Kd.C KT W4 A4 (L++[z]).length (L++[z]):=by
 have hf:Fr (bQ v1) W2 W4:=Fr.grown (Fr.refl _ W2) g3 (fun k e=> .inl e);have hR4:=Ug hR hf (fun k a b=>by have:=Kd.vF h1 k b;omega);obtain⟨-,hc,hC⟩:=Kd.gQ hR4;exact acE g1 ((hLN.below g2).snoc ⟨hC,hc,ht.below g2⟩)
end
theorem aho (s:ByteArray)(w:World):Calls Tryz.prog 14 #[.string s] w fun e w'=>∃A c,e= .returned (.agg #[.int .i64 47,.string ⟨#[]⟩,.int .i64 0,.slice A 1 c])∧KT.R 24 w' w.heap.size (fun k=>w.heap.size≤k) (.slice A (oo s).f3.length c) (oo s).f3∧Below w.heap.size w w':=by
 refine(j6.calls s 47 ⟨#[]⟩ 0 [⟨6,s,0,[]⟩] w rfl).mono ?_;exact aeB
theorem aeC (s:ByteArray)(n:Int)(w:World):Calls Tryz.prog 15 #[.string s,.int .i64 n] w fun e w'=>∃A c,e= .returned (.agg #[.int .i64 40,.string s,.int .i64 n,.slice A 2 c])∧KT.R 24 w' w.heap.size (fun k=>w.heap.size≤k) (.slice A (jl s n).f3.length c) (jl s n).f3∧Below w.heap.size w w':=by
 refine(kX.calls s n 40 s n [⟨14,⟨#[]⟩,0,[]⟩,⟨1,⟨#[]⟩,1,[]⟩] w rfl).mono ?_;exact aeB
theorem akT (s:ByteArray):(⟨#[122,122]⟩:ByteArray)++s=dD s:=by
 unfold dD;apply ByteArray.ext;simp
theorem Tk (s:ByteArray):(dD s).size=s.size+2:=by
 unfold dD ByteArray.size;simp;omega
section
variable {x:Tr} {s:ByteArray}
theorem ahp (h:s.size≤1099511627776):Fit (oo s):= .mk _ (by simp[oo]) (by simp[oo,ByteArray.size]) (fun y hy=>by
 obtain rfl:y=⟨6,s,0,[]⟩:=by simpa [oo]using hy
 exact .mk _ qo h (fun z hz=>by simp at hz))
theorem acF (h:s.size≤1099511627776)(n:Int):Fit (jl s n):= .mk _ (by simp[jl]) h (fun y hy=>by
 have:y=⟨14,⟨#[]⟩,0,[]⟩∨y=⟨1,⟨#[]⟩,1,[]⟩:=by simpa [jl]using hy
 rcases this with rfl|rfl<;>exact .mk _ qo (by simp[ByteArray.size]) (fun z hz=>by simp at hz))
theorem Jj {l:List Tr}(hl:l.length≤1099511627776)(h:∀y,y∈l→Fit y):Fit (DN l):= .mk _ hl (by simp[DN,ByteArray.size]) h
theorem Jk (h68:x.f0=68)(hrr:rz x=0)(hid:nH s=true)(aqt:sZ s=false)(hnm:∀y,y∈flat x→y.f1≠dD s):
  (oV (vK x (dD s))=91∧posR (vK x (dD s))=(flat x).length+1)∧
  (oV (r9 x (dD s))=0∧(∃l t,ig (r9 x (dD s))=l++[t]∧t.name=dD s)∧∃l,fZ (r9 x (dD s))=l++[⟨(flat x).length+1,3,(flat x).length+2,dD s,false⟩])∧
  (oV (kH x (dD s))=90∧posR (kH x (dD s))=(flat x).length+5):=by
 obtain⟨hf,h0,-,-⟩:=Yx ((Jf x).2 hrr)
 have h5:eT x=5:=by
  rcases hf with h|h
  ·exact h
  ·exfalso
   unfold eT at h;rw[if_pos h68]at h
   split at h<;>omega
 have hd:dD s≠bB:=Qz wN;have hb:jE blt (dD s)=false:=QA s wN;have hi:=abK hid;have hl:=XK aqt
 have f1:jw (vK x (dD s))=true:=by
  unfold jw vK;rw[CF h5 (by simp[Ie hi]) (by simp[gM,NR hl])];rfl
 have f2:jw (r9 x (dD s))=true:=by
  unfold jw r9;rw[List.append_assoc,CF h5 (by simp[Ie hi,KS hi]) (by simp[gM,NR hl,QB hl])];rfl
 have f3:jw (kH x (dD s))=true:=by
  unfold jw kH;rw[List.append_assoc,List.append_assoc,CF h5 (by simp[Ie hi,KS hi]) (by simp[gM,NR hl,QB hl])];rfl
 obtain⟨a1,a2⟩:=XO h5 h0 hnm hd hb;obtain⟨b1,⟨i,b2⟩,b3⟩:=XP h5 h0 hnm hd;obtain⟨c1,c2⟩:=NU h5 h0 hnm hd;refine⟨⟨by unfold oV;rw[if_pos f1,a1],by unfold posR;rw[if_pos f1,a1,if_neg wN,a2]⟩,⟨by unfold oV;rw[if_pos f2,b1],⟨_,_,by unfold ig;rw[if_pos ⟨f2,b1⟩];exact b2,rfl⟩,⟨_,by unfold fZ;rw[if_pos ⟨f2,b1⟩];exact b3⟩⟩,by unfold oV;rw[if_pos f3,c1],by unfold posR;rw[if_pos f3,c1,if_neg wN,c2]⟩
theorem wO (x:Tr)(s:ByteArray):(flat (vK x s)).length=(flat x).length+2∧(flat (r9 x s)).length=(flat x).length+5∧(flat (kH x s)).length=(flat x).length+8:=by
 have h1:=Ih x s;have h2:=QC x s;have h3:1+((aM (x.f3++[oo s]++[jl s 1]++[jl s 0])).length:Int)=(flat x).length+8:=by rw[gU,XJ];omega
 have e1:((flat (vK x s)).length:Int)=1+(aM (x.f3++[oo s])).length:=nU _;have e2:((flat (r9 x s)).length:Int)=1+(aM (x.f3++[oo s]++[jl s 1])).length:=nU _;have e3:((flat (kH x s)).length:Int)=1+(aM (x.f3++[oo s]++[jl s 1]++[jl s 0])).length:=nU _;omega
end
theorem wrapN (n:Nat)(k:Int)(hn:n≤1048576)(h0:0≤k)(h1:k≤100):wrap64 ((n:Int)+k)=(n:Int)+k:=zy
theorem aeD (n:Nat)(hn:n≤1048576):wrap64 (n:Int)=(n:Int):=zy
theorem acG (n:Nat):((n:Int)+1==0)=false:=Oi
theorem AY {G:Prop}(h:G:=by
 go_wp2_with (go_at_call 9;refine Aside0.out ?_);refine⟨?_⟩
 try rw[HW3.out]
 refine(oG _ (HT.out _ BX.out)).mono ?_;rintro e w9 ⟨rfl,h9⟩;have HE9:=hide (BX.out.trans (h9.mono BX.out.size));clear h9;go_wp2;go_ret;exact⟨rfl,B3.out.trans (HE9.out.mono B3.out.size)⟩):G:=h
theorem Tm (x:Tr)(hf:Fit x)(hb:(flat x).length≤524288)(s:ByteArray)(hs:s.size≤1048576)(A:Option Addr)(c:Nat)(w:World)(hr:Rd w x A c):Calls Tryz.prog 5 #[nd x A c,.string s] w (aH w true):=by
 unfold nd;obtain⟨n,hn⟩:∃n,x.f3.length=n:=⟨_,rfl⟩;have zB:=hide (fun W (h:Rd W x A c)=>show Calls Tryz.prog 8 #[.agg #[.int .i64 x.f0,.string x.f1,.int .i64 x.f2,.slice A n c]] W (zT x W)from by rw[←hn];exact LQ hf aG A c W h);have qm:=hide (fun W (h:Rd W x A c)=>show Calls Tryz.prog 10 #[.agg #[.int .i64 x.f0,.string x.f1,.int .i64 x.f2,.slice A n c],.slice none 0 0] W _ from by rw[←hn];exact ZC x hf A c W h aG);refine YD ?_;intro rA;have ZO:=hide hf;have HLEN:=hide hb;have HN:=hide hn;have lW:=hide hs;have FE:=hide (fun W=>jy s aG W);clear hr hn hf hb;go_enter Tryz.func5,Tryz.ntmps5;go_wp2_with (go_at_call 8;refine Aside0.out ?_);refine⟨?_⟩;refine VJ ?_;intro W1 hW1 B1;rw[hW1]at rA⊢;clear hW1;refine(zB.out W1 (rA.out W1 (Below.refl _ _)).rd).mono ?_;rintro e w2 ⟨tv,uv,rfl,hv⟩;obtain⟨A5,c5,A6,c6,rfl,rfl,-⟩:=hv.rows;obtain⟨pr,hpr⟩:∃q,vV x=q:=⟨_,rfl⟩;obtain⟨er,her⟩:∃q,rz x=q:=⟨_,rfl⟩;obtain⟨nt,hnt⟩:∃q,(qp x).length=q:=⟨_,rfl⟩;obtain⟨nu,hnu⟩:∃q,(qw x).length=q:=⟨_,rfl⟩;rw[hpr,her,hnt,hnu];have Jw:=hide her;obtain⟨W3,hW3⟩:∃W,w2.alloc (.cells #[.slice A5 nt c5,.slice A6 nu c6] 28)=W:=⟨_,rfl⟩;have b3:Below w2.heap.size w2 W3:=Pq;have L3:=hide (hv.low.trans (b3.mono hv.low.size));have B3:=hide (B1.out.trans (L3.out.mono B1.out.size));have HT:=hide (fun(W:World) (hW:Below W3.heap.size W3 W)=>(rA.out W (L3.out.trans (hW.mono L3.out.size))).rd.tab);have HW3:=hide hW3;obtain⟨y0,y1,y2,y3,-⟩:=rA.out w2 hv.low;have x0:=fun o=>bY o y0;clear hv hpr her hnt hnu hW3 b3 zB y0 y1 y2 y3;have BX:=hide (Below.refl W3.heap.size W3);by_cases h0:¬er=0
 ·have hz:(er != 0)=true:=AV h0
  clear h0 Jw;exact AY
 have h0:er=0:=Decidable.not_not.1 h0;subst h0;by_cases hk:¬x.f0=68
 ·have hz:(x.f0 != 68)=true:=MU
  clear hk Jw;exact AY
 have hk:x.f0=68:=Decidable.not_not.1 hk;rw[hk]at qm
 cases hid:nH s with
 |false=>
  rw[hid]at FE;clear Jw;go_wp2_with (go_at_call 13;refine Aside0.out ?_);refine⟨?_⟩;rw[HW3.out];refine(FE.out _).mono ?_;rintro e w4 ⟨rfl,h4⟩;have BX:=hide h4;clear h4;exact AY
 |true=>
  rw[hid]at FE;go_wp2_with (go_at_call 13;refine Aside0.out ?_);refine⟨?_⟩;rw[HW3.out];refine(FE.out _).mono ?_;rintro e w4 ⟨rfl,h4⟩;have BX:=hide h4;clear h4;by_cases hl:1000<s.size
  ·have z1:decide (1000<s.size)=true:=decide_eq_true hl
   have z2:decide (1000<(s.size:Int))=true:=decide_eq_true aG;clear Jw hl;exact AY
  ·have z1:decide (1000<s.size)=false:=decide_eq_false hl
   have z2:decide (1000<(s.size:Int))=false:=decide_eq_false aG;go_wp2_with (go_at_call 9;refine Aside0.out ?_);refine⟨?_⟩;refine(oG _ (HT.out _ BX.out)).mono ?_;rintro e w5 ⟨rfl,h5⟩;have B5:=hide (BX.out.trans (h5.mono BX.out.size));clear h5 z1 z2 BX;go_wp2;have Q0:=hide (show nG s 0=sZ s from rfl);have Z0:=hide (L3.out.trans (B5.out.mono L3.out.size));have vB:=hide (B3.out.trans (B5.out.mono B3.out.size));clear HT B3 HW3 x0 L3 B5;go_loopg [8] (s.size+1) (fun gk v8 wr=>∃i:Nat,i≤s.size∧s.size-i<gk∧v8= .int .i64 i∧wr=w5∧Aside0 (nG s i=sZ s))
   case atStart=>exact⟨0,Nat.zero_le _,aG,rfl,rfl,Q0⟩
   case round=>
    clear Q0;obtain⟨i,hi,lS,rfl,rfl,J⟩:=hrel;by_cases hlt:i<s.size
    ·refine OP ?_
     intro eY bb HE P8;go_wp2
     all_goals rename_i hq
     ·go_ret
      exact⟨rfl,vB.out⟩
     ·rw[P8.out]at hq
      have Q2:=hide (show nG s (i+1)=sZ s from by rw[←J.out,HE.out,show decide (bb=36)=false from by simpa using hq];rfl);go_roundg (s.size-i)
      case measure=>omega
      case rel=>exact⟨i+1,aG,aG,Nb,rfl,Q2⟩
    ·obtain rfl:s.size=i:=aG
     have akU:=hide (show sZ s=false from by rw[←J.out];exact EK s (Nat.le_refl _));obtain⟨x0,x1,x2,x3,-⟩:=rA.out wr Z0.out;clear J;go_wp2_with (go_at_call 10;refine Aside0.out ?_);refine⟨?_⟩;refine(qm.out wr (rA.out wr Z0.out).rd).mono ?_;rintro e w6 ⟨al,cl,rfl,hcl,hCL,hb6⟩;obtain⟨nl,hnl⟩:∃q,(flat x).length=q:=⟨_,rfl⟩;rw[hnl,akT];have Jy:=hide hnl;have akV:nl≤524288:=by have:=HLEN.out;omega
     have oF:=hide hCL;have HL6:=hide (Z0.out.trans (hb6.mono Z0.out.size));have HB6:=hide (vB.out.trans (hb6.mono vB.out.size));clear x0 x1 x2 x3 hcl hCL hb6 Z0 vB qm hnl;have Q1:=hide (show∀(j:Nat) (y:Tr),j<0→(flat x)[j]?=some y→y.f1≠dD s from fun j y h=>absurd h (Nat.not_lt_zero _));go_wp2;go_loopg [10] (nl+1) (fun gk v10 wr=>∃i:Nat,i≤nl∧nl-i<gk∧v10= .int .i64 i∧wr=w6∧Aside0 (∀(j:Nat) (y:Tr),j<i→(flat x)[j]?=some y→y.f1≠dD s))
     case atStart=>exact⟨0,Nat.zero_le _,aG,rfl,rfl,Q1⟩
     case round=>
     clear Q1;obtain⟨i,hi,lS,rfl,e6,J⟩:=hrel;obtain rfl:=e6.symm;by_cases hlt:i<nl
     ·have eY:(i:Int)<(nl:Int):=aG
      refine Zm ?_;intro hi0;obtain⟨y,hy⟩:=eO (l:=flat x) (i:=i) (by rw[Jy.out];exact hlt);obtain⟨A',c',dR,m0,m1,m2,m3⟩:=AX oF.out (rA.out _ HL6.out).rd.tab hy;have HY:=hide hy;clear hy dR;by_cases he:y.f1=dD s
      ·have z:(y.f1.toList==(dD s).toList)=true:=by rw[he];simp
       clear he;go_wp2;go_ret;exact⟨rfl,HB6.out⟩
      ·have z:(y.f1.toList==(dD s).toList)=false:=beq_eq_false_iff_ne.2 (fun e=>he (str_eq.1 e))
       have Q2:=hide (show∀(j:Nat) (y:Tr),j<i+1→(flat x)[j]?=some y→y.f1≠dD s from fun j y' hj hy'=>by
        by_cases e:j=i
        ·subst e;rw[HY.out]at hy';cases hy';exact he
        ·exact J.out j y' aG hy')
       clear he;go_wp2;go_roundg (nl-i)
       case measure=>omega
       case rel=>exact⟨i+1,aG,aG,Nb,rfl,Q2⟩
     ·obtain rfl:nl=i:=aG
      have HNM:=hide (show∀y,y∈flat x→y.f1≠dD s from fun y hy=>by
       obtain⟨j,hj⟩:=List.mem_iff_getElem?.1 hy;exact J.out j y (by rw[←Jy.out];exact(List.getElem?_eq_some_iff.1 hj).1) hj)
      have hnb:n≤524288:=by have:=jY x.f3;have h2:=Jy.out;rw[gD,List.length_cons]at h2;have:=HN.out;omega
      have HC0:=hide (fun(W:World) (hW:Below w6.heap.size w6 W)=>show Kd.C KT W A n x.f3 from by rw[←HN.out];exact(rA.out W (HL6.out.trans (hW.mono HL6.out.size))).rd.kids);have acH:=hide (fun(W:World) (hW:Below w6.heap.size w6 W)=>(rA.out W (HL6.out.trans (hW.mono HL6.out.size))).rd.tab);clear J oF;have x3:=(rA.out w6 HL6.out).x3;go_wp2_with ((with_reducible refine cO (b:= .append) (xs:=#[.const (.slice none 0 0),.tmp 83]) rfl ?_);at_builtin;refine Aside0.out ?_);refine⟨?_⟩;obtain⟨ys,hLN,hRR⟩:=Dh (W:=w6) (L:=x.f3) (by rw[HN.out];exact HC0.out w6 (Below.refl _ _)) (acH.out w6 (Below.refl _ _)) (by rw[HN.out];omega);rw[HN.out]at hRR;refine Kd.pX KV (Rr:=acD) (w0:=w6) w6.heap.size rfl (.const (.slice none 0 0)) (.tmp 83) 22 24 (.agg #[.int .i64 0,.string ⟨#[]⟩,.int .i64 0,.slice none 0 0]) 56 rfl Tryz.underlying22 rD rfl wN aG (.slice none 0 0) [] ys _ n _ (fun k=>w6.heap.size≤k) (fun _=>False) rfl rfl (Kd.jm _ _ _ _ _) hRR (fun _ _ h=>h) (fun _ h=>h.elim) (fun _ h=>h) (Below.refl _ _) (Nat.le_refl _) Oi ?_;intro v1 Wa1 h1 h2 h3 h4;rw[List.nil_append]at h1;have ahq:=hide hLN;have HA1:=hide h1;have HB1:=hide h2;clear h1 h2 h3 h4 hLN hRR x3;go_wp2_with (go_at_call 14;refine Aside0.out ?_);refine⟨?_⟩;refine(aho (dD s) Wa1).mono ?_;rintro e Wb1 ⟨A',c',rfl,hR,hbb⟩;have HR1:=hide hR;have Z4:=hide hbb;clear hR hbb;go_wp2_with ((with_reducible refine cO (b:= .append) (xs:=#[.tmp 84,.tmp 87]) rfl ?_);at_builtin;refine Aside0.out ?_);refine⟨?_⟩;refine Kd.gP KV (w0:=w6) w6.heap.size rfl (.tmp 84) (.tmp 87) 22 24 (.agg #[.int .i64 0,.string ⟨#[]⟩,.int .i64 0,.slice none 0 0]) 56 rfl Tryz.underlying22 rD rfl wN aG v1 ys (Ao (oo (dD s)) A' c') [.int .i64 47,.string ⟨#[]⟩,.int .i64 0,.slice A' 1 c'] (fun k=>w6.heap.size≤k) (fun _=>False) rfl ?aX ?aP (fun _ hk=>hk.elim) ?aF ?aO ?aB ?aS ?aL ?_
      case aX=>rfl
      case aP=>exact⟨rfl,rfl,eU⟩
      case aF=>exact fun k hk=>Nat.le_trans HB1.out.size (Nat.le_trans Z4.out.size hk)
      case aO=>exact Kd.bS HA1.out Z4.out
      case aB=>exact HB1.out.trans (Z4.out.mono HB1.out.size)
      case aS=>exact Nat.le_trans HB1.out.size Z4.out.size
      case aL=>rw[ahq.out.len,HN.out];omega
      intro v2 Wc1 g1 g2 g3 g4;obtain⟨Ak1,ck1,rfl,hc4,Z5⟩:=grow ahq.out HA1.out HB1.out HR1.out g1 g2 g3 (acH.out w6 (Below.refl _ _));obtain⟨m1,hm⟩:∃q,(x.f3++[(oo (dD s))]).length=q:=⟨_,rfl⟩;have SF:=hide hm;have aqu:m1≤524289:=by have:=HN.out;rw[List.length_append,List.length_singleton]at hm;omega
      rw[hm]at hc4 Z5⊢;obtain⟨Jl,TH⟩:∃W,Wc1.alloc (.cells #[.int .i64 68,.string ⟨#[]⟩,.int .i64 0,.slice Ak1 m1 ck1] 24)=W:=⟨_,rfl⟩;have be:Below Wc1.heap.size Wc1 Jl:=Nz;have ahr:=hide (show Jl.heap[Wc1.heap.size]?=some (.cells #[.int .i64 68,.string ⟨#[]⟩,.int .i64 0,.slice Ak1 m1 ck1] 24 (0,0))from by rw[←TH];exact aR Wc1 _);have HC1:=hide (fun(W:World) (hW:Below Jl.heap.size Jl W)=>kL Z5 (be.trans (hW.mono be.size)));have akW:=hide hc4;have jD:=hide (g2.trans (be.mono g2.size));have acJ:=hide (fun(W:World) (hW:Below Jl.heap.size Jl W)=>acH.out W (jD.out.trans (hW.mono jD.out.size)));have aqv:=hide TH;clear g1 g2 g3 g4 hc4 Z5 hm TH be ahq HA1 HB1 HR1 Z4;have b3:Jl.cell? ⟨Wc1.heap.size,3,none⟩=some (.slice Ak1 m1 ck1):=(aj ahr.out 3).trans rfl;go_wp2_with ((with_reducible refine cO (b:= .append) (xs:=#[.const (.slice none 0 0),.tmp 91]) rfl ?_);at_builtin;refine Aside0.out ?_);refine⟨?_⟩;rw[aqv.out];obtain⟨ys,hLN,hRR⟩:=Dh (W:=Jl) (L:=(x.f3++[oo (dD s)])) (by rw[SF.out];exact HC1.out Jl (Below.refl _ _)) (acJ.out Jl (Below.refl _ _)) (by rw[SF.out];omega);rw[SF.out]at hRR;refine Kd.pX KV (Rr:=acD) (w0:=Jl) Jl.heap.size rfl (.const (.slice none 0 0)) (.tmp 91) 22 24 (.agg #[.int .i64 0,.string ⟨#[]⟩,.int .i64 0,.slice none 0 0]) 56 rfl Tryz.underlying22 rD rfl wN aG (.slice none 0 0) [] ys _ m1 _ (fun k=>Jl.heap.size≤k) (fun _=>False) rfl rfl (Kd.jm _ _ _ _ _) hRR (fun _ _ h=>h) (fun _ h=>h.elim) (fun _ h=>h) (Below.refl _ _) (Nat.le_refl _) Oi ?_;intro v1 Wa2 h1 h2 h3 h4;rw[List.nil_append]at h1;have ahs:=hide hLN;have HA2:=hide h1;have HB2:=hide h2;clear h1 h2 h3 h4 hLN hRR b3;go_wp2_with (go_at_call 15;refine Aside0.out ?_);refine⟨?_⟩;refine(aeC (dD s) 1 Wa2).mono ?_;rintro e Wb2 ⟨A',c',rfl,hR,hbb⟩;have HR2:=hide hR;have Z6:=hide hbb;clear hR hbb;go_wp2_with ((with_reducible refine cO (b:= .append) (xs:=#[.tmp 92,.tmp 95]) rfl ?_);at_builtin;refine Aside0.out ?_);refine⟨?_⟩;refine Kd.gP KV (w0:=Jl) Jl.heap.size rfl (.tmp 92) (.tmp 95) 22 24 (.agg #[.int .i64 0,.string ⟨#[]⟩,.int .i64 0,.slice none 0 0]) 56 rfl Tryz.underlying22 rD rfl wN aG v1 ys (Ao (jl (dD s) 1) A' c') [.int .i64 40,.string (dD s),.int .i64 1,.slice A' 2 c'] (fun k=>Jl.heap.size≤k) (fun _=>False) rfl ?aX ?aP (fun _ hk=>hk.elim) ?aF ?aO ?aB ?aS ?aL ?_
      case aX=>rfl
      case aP=>exact⟨rfl,rfl,eU⟩
      case aF=>exact fun k hk=>Nat.le_trans HB2.out.size (Nat.le_trans Z6.out.size hk)
      case aO=>exact Kd.bS HA2.out Z6.out
      case aB=>exact HB2.out.trans (Z6.out.mono HB2.out.size)
      case aS=>exact Nat.le_trans HB2.out.size Z6.out.size
      case aL=>rw[ahs.out.len,SF.out];omega
      intro v2 Wc2 g1 g2 g3 g4;obtain⟨Ak2,ck2,rfl,hc4,Z5⟩:=grow ahs.out HA2.out HB2.out HR2.out g1 g2 g3 (acJ.out Jl (Below.refl _ _));obtain⟨m2,hm⟩:∃q,((x.f3++[oo (dD s)])++[(jl (dD s) 1)]).length=q:=⟨_,rfl⟩;have P9:=hide hm;have aqw:m2≤524290:=by have:=SF.out;rw[List.length_append,List.length_singleton]at hm;omega
      rw[hm]at hc4 Z5⊢;obtain⟨Jm,TH⟩:∃W,Wc2.alloc (.cells #[.int .i64 68,.string ⟨#[]⟩,.int .i64 0,.slice Ak2 m2 ck2] 24)=W:=⟨_,rfl⟩;have be:Below Wc2.heap.size Wc2 Jm:=Nz;have aht:=hide (show Jm.heap[Wc2.heap.size]?=some (.cells #[.int .i64 68,.string ⟨#[]⟩,.int .i64 0,.slice Ak2 m2 ck2] 24 (0,0))from by rw[←TH];exact aR Wc2 _);have sD:=hide (fun(W:World) (hW:Below Jm.heap.size Jm W)=>kL Z5 (be.trans (hW.mono be.size)));have akX:=hide hc4;have HL2:=hide (g2.trans (be.mono g2.size));have acL:=hide (fun(W:World) (hW:Below Jm.heap.size Jm W)=>acJ.out W (HL2.out.trans (hW.mono HL2.out.size)));have aqx:=hide TH;clear g1 g2 g3 g4 hc4 Z5 hm TH be ahs HA2 HB2 HR2 Z6;have b3:Jm.cell? ⟨Wc2.heap.size,3,none⟩=some (.slice Ak2 m2 ck2):=(aj aht.out 3).trans rfl;go_wp2_with ((with_reducible refine cO (b:= .append) (xs:=#[.const (.slice none 0 0),.tmp 99]) rfl ?_);at_builtin;refine Aside0.out ?_);refine⟨?_⟩;rw[aqx.out];obtain⟨ys,hLN,hRR⟩:=Dh (W:=Jm) (L:=(x.f3++[oo (dD s)]++[jl (dD s) 1])) (by rw[P9.out];exact sD.out Jm (Below.refl _ _)) (acL.out Jm (Below.refl _ _)) (by rw[P9.out];omega);rw[P9.out]at hRR;refine Kd.pX KV (Rr:=acD) (w0:=Jm) Jm.heap.size rfl (.const (.slice none 0 0)) (.tmp 99) 22 24 (.agg #[.int .i64 0,.string ⟨#[]⟩,.int .i64 0,.slice none 0 0]) 56 rfl Tryz.underlying22 rD rfl wN aG (.slice none 0 0) [] ys _ m2 _ (fun k=>Jm.heap.size≤k) (fun _=>False) rfl rfl (Kd.jm _ _ _ _ _) hRR (fun _ _ h=>h) (fun _ h=>h.elim) (fun _ h=>h) (Below.refl _ _) (Nat.le_refl _) Oi ?_;intro v1 Wa3 h1 h2 h3 h4;rw[List.nil_append]at h1;have ahu:=hide hLN;have HA3:=hide h1;have HB3:=hide h2;clear h1 h2 h3 h4 hLN hRR b3;go_wp2_with (go_at_call 15;refine Aside0.out ?_);refine⟨?_⟩;refine(aeC (dD s) 0 Wa3).mono ?_;rintro e Wb3 ⟨A',c',rfl,hR,hbb⟩;have HR3:=hide hR;have Z7:=hide hbb;clear hR hbb;go_wp2_with ((with_reducible refine cO (b:= .append) (xs:=#[.tmp 100,.tmp 103]) rfl ?_);at_builtin;refine Aside0.out ?_);refine⟨?_⟩;refine Kd.gP KV (w0:=Jm) Jm.heap.size rfl (.tmp 100) (.tmp 103) 22 24 (.agg #[.int .i64 0,.string ⟨#[]⟩,.int .i64 0,.slice none 0 0]) 56 rfl Tryz.underlying22 rD rfl wN aG v1 ys (Ao (jl (dD s) 0) A' c') [.int .i64 40,.string (dD s),.int .i64 0,.slice A' 2 c'] (fun k=>Jm.heap.size≤k) (fun _=>False) rfl ?aX ?aP (fun _ hk=>hk.elim) ?aF ?aO ?aB ?aS ?aL ?_
      case aX=>rfl
      case aP=>exact⟨rfl,rfl,eU⟩
      case aF=>exact fun k hk=>Nat.le_trans HB3.out.size (Nat.le_trans Z7.out.size hk)
      case aO=>exact Kd.bS HA3.out Z7.out
      case aB=>exact HB3.out.trans (Z7.out.mono HB3.out.size)
      case aS=>exact Nat.le_trans HB3.out.size Z7.out.size
      case aL=>rw[ahu.out.len,P9.out];omega
      intro v2 Wc3 g1 g2 g3 g4;obtain⟨Ak3,ck3,rfl,hc4,Z5⟩:=grow ahu.out HA3.out HB3.out HR3.out g1 g2 g3 (acL.out Jm (Below.refl _ _));obtain⟨m3,hm⟩:∃q,((x.f3++[oo (dD s)]++[jl (dD s) 1])++[(jl (dD s) 0)]).length=q:=⟨_,rfl⟩;have HM3:=hide hm;have aqz:m3≤524291:=by have:=P9.out;rw[List.length_append,List.length_singleton]at hm;omega
      rw[hm]at hc4 Z5⊢;obtain⟨QX,TH⟩:∃W,Wc3.alloc (.cells #[.int .i64 68,.string ⟨#[]⟩,.int .i64 0,.slice Ak3 m3 ck3] 24)=W:=⟨_,rfl⟩;have be:Below Wc3.heap.size Wc3 QX:=Nz;have akZ:=hide (show QX.heap[Wc3.heap.size]?=some (.cells #[.int .i64 68,.string ⟨#[]⟩,.int .i64 0,.slice Ak3 m3 ck3] 24 (0,0))from by rw[←TH];exact aR Wc3 _);have HC3:=hide (fun(W:World) (hW:Below QX.heap.size QX W)=>kL Z5 (be.trans (hW.mono be.size)));have ak0:=hide hc4;have Ad:=hide (g2.trans (be.mono g2.size));have aqA:=hide (fun(W:World) (hW:Below QX.heap.size QX W)=>acL.out W (Ad.out.trans (hW.mono Ad.out.size)));have ak1:=hide TH;clear g1 g2 g3 g4 hc4 Z5 hm TH be ahu HA3 HB3 HR3 Z7;have hps:(dD s).size≤1099511627776:=by rw[Tk];have:=lW.out;omega
      have HFN:=hide (ahp hps);have HFE:=hide (fun n=>acF hps n);have HF0:=hide (fun y (hy:y∈x.f3)=>ZO.out.kid hy);have zP:=hide (wO x (dD s));have ak2:=hide (fun(W:World) (hW:Below Jl.heap.size Jl W)=>show Rd W (vK x (dD s)) Ak1 ck1 from⟨by show Kd.C KT W Ak1 (x.f3++[oo (dD s)]).length _;rw[SF.out];exact HC1.out W hW,by show(x.f3++[oo (dD s)]).length≤ck1;rw[SF.out];exact akW.out,acJ.out W hW⟩);have ak3:=hide (fun(W:World) (h:Rd W (vK x (dD s)) Ak1 ck1)=>show Calls Tryz.prog 7 #[.agg #[.int .i64 68,.string ⟨#[]⟩,.int .i64 0,.slice Ak1 m1 ck1]] W (DR (vK x (dD s)) W)from by rw[←SF.out];exact vo (x:=(vK x (dD s))) (Jj (by rw[SF.out];omega) (fun y hy=>by rcases List.mem_append.1 hy with h|h;exact HF0.out y h;rw[List.mem_singleton.1 h];exact HFN.out)) (by have h1:=zP.out.1;have h2:=Jy.out;omega) Ak1 ck1 W h);have ak4:=hide (fun(W:World) (hW:Below Jm.heap.size Jm W)=>show Rd W (r9 x (dD s)) Ak2 ck2 from⟨by show Kd.C KT W Ak2 (x.f3++[oo (dD s)]++[jl (dD s) 1]).length _;rw[P9.out];exact sD.out W hW,by show(x.f3++[oo (dD s)]++[jl (dD s) 1]).length≤ck2;rw[P9.out];exact akX.out,acL.out W hW⟩);have ak5:=hide (fun(W:World) (h:Rd W (r9 x (dD s)) Ak2 ck2)=>show Calls Tryz.prog 7 #[.agg #[.int .i64 68,.string ⟨#[]⟩,.int .i64 0,.slice Ak2 m2 ck2]] W (DR (r9 x (dD s)) W)from by rw[←P9.out];exact vo (x:=(r9 x (dD s))) (Jj (by rw[P9.out];omega) (fun y hy=>by rcases List.mem_append.1 hy with h|h;rcases List.mem_append.1 h with h|h;exact HF0.out y h;rw[List.mem_singleton.1 h];exact HFN.out;rw[List.mem_singleton.1 h];exact HFE.out 1)) (by have h1:=zP.out.2.1;have h2:=Jy.out;omega) Ak2 ck2 W h);have ak6:=hide (fun(W:World) (hW:Below QX.heap.size QX W)=>show Rd W (kH x (dD s)) Ak3 ck3 from⟨by show Kd.C KT W Ak3 (x.f3++[oo (dD s)]++[jl (dD s) 1]++[jl (dD s) 0]).length _;rw[HM3.out];exact HC3.out W hW,by show(x.f3++[oo (dD s)]++[jl (dD s) 1]++[jl (dD s) 0]).length≤ck3;rw[HM3.out];exact ak0.out,aqA.out W hW⟩);have ak7:=hide (fun(W:World) (h:Rd W (kH x (dD s)) Ak3 ck3)=>show Calls Tryz.prog 7 #[.agg #[.int .i64 68,.string ⟨#[]⟩,.int .i64 0,.slice Ak3 m3 ck3]] W (DR (kH x (dD s)) W)from by rw[←HM3.out];exact vo (x:=(kH x (dD s))) (Jj (by rw[HM3.out];omega) (fun y hy=>by rcases List.mem_append.1 hy with h|h;rcases List.mem_append.1 h with h|h;rcases List.mem_append.1 h with h|h;exact HF0.out y h;rw[List.mem_singleton.1 h];exact HFN.out;rw[List.mem_singleton.1 h];exact HFE.out 1;rw[List.mem_singleton.1 h];exact HFE.out 0)) (by have h1:=zP.out.2.2;have h2:=Jy.out;omega) Ak3 ck3 W h);have Mc:=hide (Jk hk Jw.out hid akU.out HNM.out);have e2:=HL2.out.trans (Ad.out.mono HL2.out.size);have HE2:=hide e2;have acN:=hide ((e2.block _ (ay ahr.out)).trans ahr.out);have ak8:=hide ((Ad.out.block _ (ay aht.out)).trans aht.out);have ak9:=hide (HB6.out.trans ((jD.out.trans (e2.mono jD.out.size)).mono HB6.out.size));have q0:QX.cell? ⟨Wc1.heap.size,0,none⟩=some (.int .i64 68):=(aj acN.out 0).trans rfl;have q1:QX.cell? ⟨Wc1.heap.size,1,none⟩=some (.string ⟨#[]⟩):=(aj acN.out 1).trans rfl;have q2:QX.cell? ⟨Wc1.heap.size,2,none⟩=some (.int .i64 0):=(aj acN.out 2).trans rfl;have q3:QX.cell? ⟨Wc1.heap.size,3,none⟩=some (.slice Ak1 m1 ck1):=(aj acN.out 3).trans rfl;rw[←ak1.out]at q0 q1 q2 q3;clear e2 hps HFN HFE HF0 zP SF P9 HM3 HC1 sD HC3 akW akX ak0 HN rA ZO HLEN lW FE HC0 acH HNM akU Jw hid;go_wp2_with (go_at_call 7;refine Aside0.out ?_);refine⟨?_⟩;rw[ak1.out];refine(ak3.out _ (ak2.out _ HE2.out)).mono ?_;rintro e w21 ⟨tv,uv,rfl,hv⟩;obtain⟨At1,ct1,Au1,cu1,rfl,rfl,-⟩:=hv.rows;rw[Mc.out.1.1,Mc.out.1.2,Jy.out];obtain⟨nt1,ak'⟩:∃q,(ig (vK x (dD s))).length=q:=⟨_,rfl⟩;obtain⟨nu1,ak_⟩:∃q,(fZ (vK x (dD s))).length=q:=⟨_,rfl⟩;rw[ak',ak_];have LV1:=hide hv.low;clear hv ak' ak_ q0 q1 q2 q3;obtain⟨W21,acO⟩:∃W,w21.alloc (.cells #[.slice At1 nt1 ct1,.slice Au1 nu1 cu1] 28)=W:=⟨_,rfl⟩;have acP:=hide (show Below QX.heap.size QX W21 from by rw[←acO];exact LV1.out.trans ((au (Below.refl _ _) _).mono LV1.out.size));have n13:=(acP.out.block _ (ay ak8.out)).trans ak8.out;have aqC:=hide acO;have q0:W21.cell? ⟨Wc2.heap.size,0,none⟩=some (.int .i64 68):=(aj n13 0).trans rfl;have q1:W21.cell? ⟨Wc2.heap.size,1,none⟩=some (.string ⟨#[]⟩):=(aj n13 1).trans rfl;have q2:W21.cell? ⟨Wc2.heap.size,2,none⟩=some (.int .i64 0):=(aj n13 2).trans rfl;have q3:W21.cell? ⟨Wc2.heap.size,3,none⟩=some (.slice Ak2 m2 ck2):=(aj n13 3).trans rfl;rw[←acO]at q0 q1 q2 q3;clear acO n13 LV1 ak3 ak2;go_wp2_with (go_at_call 7;refine Aside0.out ?_);refine⟨?_⟩;rw[aqC.out];refine(ak5.out _ (ak4.out _ (Ad.out.trans (acP.out.mono Ad.out.size)))).mono ?_;rintro e Z8 ⟨tv,uv,rfl,hv⟩;obtain⟨At2,ct2,Au2,cu2,rfl,rfl,hrow⟩:=hv.rows;obtain⟨lt,tt,ht1,ht2⟩:=Mc.out.2.1.2.1;obtain⟨lu,hu1⟩:=Mc.out.2.1.2.2;rw[ht1,hu1]at hrow⊢;rw[Mc.out.2.1.1];obtain⟨pr2,alb⟩:∃q,posR (r9 x (dD s))=q:=⟨_,rfl⟩;rw[alb];obtain⟨kt,hkt⟩:∃q,lt.length=q:=⟨_,rfl⟩;obtain⟨ku,hku⟩:∃q,lu.length=q:=⟨_,rfl⟩;have hlt1:(lt++[tt]).length=kt+1:=by rw[List.length_append,hkt];rfl
      have acQ:∀u:bV,(lu++[u]).length=ku+1:=fun u=>by rw[List.length_append,hku];rfl
      have alc:kt≤1048576:=by
       have h1:=(Db (r9 x (dD s))).1;rw[ht1,hlt1]at h1;have:=(wO x (dD s)).2.1;have:=Jy.out;omega
      have ald:ku≤1048576:=by
       have h1:=(Db (r9 x (dD s))).2;rw[hu1,acQ]at h1;have:=(wO x (dD s)).2.1;have:=Jy.out;omega
      rw[hlt1,acQ]at hrow⊢;obtain⟨Ol,rfl⟩:=kZ (hrow Z8 (Below.refl _ _)).1 aG;obtain⟨adu,rfl⟩:=kZ (hrow Z8 (Below.refl _ _)).2 aG;have lq:=hide (fun(W:World) (hW:Below Z8.heap.size Z8 W)=>And.intro (zh (hrow W hW).1 hlt1 (k:=kt) (t:=tt) (by rw[←hkt];simp)) (zl (hrow W hW).2 (acQ _) (k:=ku) (t:=⟨(flat x).length+1,3,(flat x).length+2,dD s,false⟩) (by rw[←hku];simp)));have HTN:=hide ht2;have LV2:=hide hv.low;clear hv hrow ht1 ht2 hu1 hkt hku hlt1 acQ alb q0 q1 q2 q3;obtain⟨W22,Z9⟩:∃W,Z8.alloc (.cells #[.slice (some Ol) (kt+1) ct2,.slice (some adu) (ku+1) cu2] 28)=W:=⟨_,rfl⟩;have P8:=hide (show W22.heap[Z8.heap.size]?=some (.cells #[.slice (some Ol) (kt+1) ct2,.slice (some adu) (ku+1) cu2] 28 (0,0))from by rw[←Z9];exact aR Z8 _);have b22:Below Z8.heap.size Z8 W22:=by rw[←Z9];exact au (Below.refl _ _) _
      have B22:=hide b22;have acR:=hide (acP.out.trans ((LV2.out.trans (b22.mono LV2.out.size)).mono acP.out.size));have n14:=(acR.out.block _ (ay akZ.out)).trans akZ.out;have aqI:=hide Z9;have q0:W22.cell? ⟨Wc3.heap.size,0,none⟩=some (.int .i64 68):=(aj n14 0).trans rfl;have q1:W22.cell? ⟨Wc3.heap.size,1,none⟩=some (.string ⟨#[]⟩):=(aj n14 1).trans rfl;have q2:W22.cell? ⟨Wc3.heap.size,2,none⟩=some (.int .i64 0):=(aj n14 2).trans rfl;have q3:W22.cell? ⟨Wc3.heap.size,3,none⟩=some (.slice Ak3 m3 ck3):=(aj n14 3).trans rfl;rw[←Z9]at q0 q1 q2 q3;clear Z9 n14 b22 LV2 ak5 ak4;go_wp2_with (go_at_call 7;refine Aside0.out ?_);refine⟨?_⟩;rw[aqI.out];refine(ak7.out _ (ak6.out _ acR.out)).mono ?_;rintro e w23 ⟨tv,uv,rfl,hv⟩;obtain⟨At3,ct3,Au3,cu3,rfl,rfl,-⟩:=hv.rows;rw[Mc.out.2.2.1,Mc.out.2.2.2,Jy.out];obtain⟨nt3,ale⟩:∃q,(ig (kH x (dD s))).length=q:=⟨_,rfl⟩;obtain⟨nu3,alf⟩:∃q,(fZ (kH x (dD s))).length=q:=⟨_,rfl⟩;rw[ale,alf];have LV3:=hide hv.low;have bt:=B22.out.trans (LV3.out.mono B22.out.size);obtain⟨⟨k0,k1,k2,k3,k4⟩,⟨l0,l1,l2,l3,l4⟩⟩:=lq.out w23 bt;have nt:=(LV3.out.block _ (ay P8.out)).trans P8.out;have c0:w23.cell? ⟨Z8.heap.size,0,none⟩=some (.slice (some Ol) (kt+1) ct2):=(aj nt 0).trans rfl;have c1:w23.cell? ⟨Z8.heap.size,1,none⟩=some (.slice (some adu) (ku+1) cu2):=(aj nt 1).trans rfl;rw[HTN.out]at k0
      try simp only at l0 l1 l2 l3 l4
      rw[Jy.out]at l0 l2;have K0:=fun o=>bY o k0;have L0:=fun o=>bY o l0;have L1:=fun o=>bY o l1;have L2:=fun o=>bY o l2;have L3':=fun o=>bY o l3;have L4:=fun o=>bY o l4;have C0:=fun o=>bY o c0;have C1:=fun o=>bY o c1;have acS:nl≤1048576:=Nat.le_trans akV wN;have w1:=wrapN nl 1 acS wN wN;have w2':=wrapN nl 2 acS wN wN;have w5':=wrapN nl 5 acS wN wN;have w3':=aeD kt alc;have w4':=aeD ku ald;have d0:=acG kt;have HEN:=hide (ak9.out.trans ((acR.out.trans (LV3.out.mono acR.out.size)).mono ak9.out.size));clear hv ale alf q0 q1 q2 q3 bt nt k0 k1 k2 k3 k4 l0 l1 l2 l3 l4 c0 c1 LV3 ak7 ak6 lq Mc P8;have g0:(0:Int)≤(kt:Int):=Int.natCast_nonneg _;have g1:(kt:Int)<(kt:Int)+1:=Int.lt_succ _;have g2:(0:Int)≤(ku:Int):=Int.natCast_nonneg _;have g3:(ku:Int)<(ku:Int)+1:=Int.lt_succ _;clear hk hi lS hlt hs e6 acS akV hnb aqu aqw aqz alc ald;go_wp2;go_ret;exact⟨rfl,(HEN.out.alloc (Nat.le_trans HEN.out.size (Nat.le_refl _)) _).alloc (by have:=HEN.out.size;simp;omega) _⟩
theorem Z_ {W:World}(x:Tr)(lx:Low x)(A:Option Addr)(c:Nat)(hr:Rd W x A c)(s:ByteArray)(hs:s.size≤1048576)(w:World)(hw:w=W):
  Calls Tryz.prog 5 #[nd x A c,.string s] w fun e w'=>e= .returned (.bool true)∧Below w.heap.size w w':=by
 subst hw;exact Tm x lx.fit (yw lx) s hs A c w hr
end Go.Proofs.YtldgmneijipbjaaGreatDoor.H
