import Derived.Test.YtldgmneijipbjaaGreatDoorBR6
import Derived.Test.YtldgmneijipbjaaGreatDoorBMac
set_option linter.unusedVariables false
set_option linter.unusedSimpArgs false
set_option maxRecDepth 100000
set_option maxHeartbeats 16000000
namespace Go.Proofs.YtldgmneijipbjaaGreatDoor.H
open Go.RowKit Go.Shelf Go.Proofs.YtldgmneijipbjaaGreatDoorW.PrintWords Go.Proofs.YtldgmneijipbjaaGreatDoorW.PrintLast Go.Proofs.YtldgmneijipbjaaGreatDoorW.PrintMore
open PScopeOwn
theorem jG (k:Int)(s:ByteArray)(n:Int)(A:Option Addr)(l:List Tr)(c:Nat)(w:World):Calls Tryz.prog 84 #[.agg #[.int .i64 k,.string s,.int .i64 n,.slice A l.length c]] w (aH w l.isEmpty):=agI k s n A l.length c w _ (lH l)
theorem oH (x:Tr)(A:Option Addr)(c:Nat)(W:World):Calls Tryz.prog 93 #[nd x A c] W (aH W (gT x)):=by
 obtain⟨k,s,n,l⟩:=x;exact agJ k s n A l.length c W (lT s n) l.isEmpty _ rfl (fun W2 _=>bD k s n A l.length c W2) (fun W2 _=>jG k s n A l c W2)
def KC (p:Addr)(b o:Nat)(y:Tr)(A:Option Addr)(c:Nat)(W:World):Prop:=W.cell? p=some (.int .i64 y.f0)∧W.cell? ⟨b,o+1,none⟩=some (.string y.f1)∧W.cell? ⟨b,o+2,none⟩=some (.int .i64 y.f2)∧W.cell? ⟨b,o+3,none⟩=some (.slice A y.f3.length c)
theorem KC.below {p:Addr}{b o:Nat}{y:Tr}{A:Option Addr}{c:Nat}{W W':World}(h:KC p b o y A c W)(hb:Below W.heap.size W W'):KC p b o y A c W':=⟨ak hb h.1,ak hb h.2.1,ak hb h.2.2.1,ak hb h.2.2.2⟩
theorem sw {w:World}{x:Tr}{A:Option Addr}{c:Nat}(h:Rd w x A c){y:Tr}(hy:x.f3[0]?=some y):∃ad A' c',A=some ad∧Rd w y A' c'∧KC ad ad.block ad.off y A' c' w:=by
 obtain⟨ad,A',c',e,h0,h1,h2,h3,h4⟩:=h.kid hy;rw[show ad.add (0*4)=ad from kN ad]at h1 h2 h3 h4;exact⟨ad,A',c',e,h0,h1,h2,h3,h4⟩
theorem DU {w:World}{x:Tr}{ad:Addr}{c:Nat}(h:Rd w x (some ad) c)(j:Nat){y:Tr}(hy:x.f3[j+1]?=some y):∃A' c',Rd w y A' c'∧KC ⟨ad.block,ad.off+(j+1)*4,none⟩ ad.block (ad.off+(j+1)*4) y A' c' w:=by
 obtain⟨JB,A',c',e,h0,h1,h2,h3,h4⟩:=h.kid hy
 cases e
 have ea:ad.add ((j+1)*4)=⟨ad.block,ad.off+(j+1)*4,none⟩:=by unfold Addr.add;rw[if_neg aG]
 rw[ea]at h1 h2 h3 h4;exact⟨A',c',h0,h1,h2,h3,h4⟩
theorem mI {ts:List (Wr×Co)}{l:List Tr}(h:ts.length≠l.length):QR ts l=false:=by rw[vZ];exact uh (by simpa using h)
theorem QR1 (a:Wr×Co)(x:Tr):QR [a] [x]=wq a x:=by rw[QR,QR];simp[wq]
theorem QR2 (a b:Wr×Co)(x y:Tr):QR [a,b] [x,y]=(wq a x&&wq b y):=by rw[QR,QR1];rfl
theorem QR3 (a b d:Wr×Co)(x y z:Tr):QR [a,b,d] [x,y,z]=(wq a x&&(wq b y&&wq d z)):=by rw[QR,QR2];rfl
theorem lone {l:List Tr}(h:l.length=1):∃a,l=[a]:=by match l,h with|[a],_=>exact⟨a,rfl⟩
theorem SY {l:List Tr}(h:l.length=2):∃a b,l=[a,b]:=by match l,h with|[a,b],_=>exact⟨a,b,rfl⟩
theorem Zc {l:List Tr}(h:l.length=3):∃a b d,l=[a,b,d]:=by match l,h with|[a,b,d],_=>exact⟨a,b,d,rfl⟩
theorem mJ {l:List Tr}{k:Nat}(h:¬l.length=k):((l.length:Int)==(k:Int))=false:=by simp only[beq_eq_false_iff_ne];omega
theorem xZ (l:List Tr)(k:Nat):((l.length:Int)==(k:Int))=decide (l.length=k):=by
 by_cases h:l.length=k
 ·rw[decide_eq_true h,h];simp
 ·rw[decide_eq_false h];exact mJ h
theorem LD (c:Co)(l:List Tr):QL .i c l=l.all (Q c):=by rw[yH];rfl
theorem yc:∀(l:List Tr) (k:Nat),(decide (l.length=k)&&l.all (Q .E))=QR (List.replicate k (.i,.E)) l
 |[],0=>by simp[QR]
 |[],k+1=>by simp[QR,List.replicate_succ]
 |x::l,0=>by simp[QR]
 |x::l,k+1=>by
  rw[List.replicate_succ,QR,←yc l k,List.all_cons,List.length_cons];simp only[BH,Nat.add_right_cancel_iff]
  cases Q .E x<;>cases decide (l.length=k)<;>rfl
theorem aei (l:List Tr):(decide (l.length=1)&&l.all (Q .E))=QR [(.i,.E)] l:=yc l 1
theorem aej (l:List Tr):(decide (l.length=2)&&l.all (Q .E))=QR [(.i,.E),(.i,.E)] l:=yc l 2
theorem akn (l:List Tr):(decide (l.length=3)&&l.all (Q .E))=QR [(.i,.E),(.i,.E),(.i,.E)] l:=yc l 3
theorem ab' (l:List Tr):decide ((1:Int)≤(l.length:Int))=decide (0<l.length):=by
 by_cases h:0<l.length
 ·rw[decide_eq_true h,decide_eq_true aG]
 ·rw[decide_eq_false h,decide_eq_false aG]
def unL:List ByteArray:=[⟨#[45]⟩,⟨#[33]⟩,⟨#[116,121,112,101,111,102]⟩]
def agO:List ByteArray:=[⟨#[43]⟩,⟨#[45]⟩,⟨#[42]⟩,⟨#[47]⟩,⟨#[37]⟩,⟨#[61,61,61]⟩,⟨#[33,61,61]⟩,⟨#[60]⟩,⟨#[60,61]⟩,⟨#[62]⟩,⟨#[62,61]⟩,⟨#[38,38]⟩,⟨#[124,124]⟩]
theorem LG (t s:ByteArray):decide (t=s)=(s.toList==t.toList):=by
 rw[Bool.eq_iff_iff];simp only[decide_eq_true_eq,beq_iff_eq,str_eq];exact eq_comm
theorem ako (s:ByteArray):jE unL s=unB s:=by
 unfold jE unL unB;simp only[List.any_cons,List.any_nil,Bool.or_false,LG,ByteArray.toList_eq]
theorem agP (s:ByteArray):jE agO s=Rs s:=by
 unfold jE agO Rs;simp only[List.any_cons,List.any_nil,Bool.or_false,LG,ByteArray.toList_eq]
theorem agQ (W:World)(l:List ByteArray)(hl:l.length≤100):Kd.C Kd.string (W.alloc (.cells (l.map Value.string).toArray 9)) (some ⟨W.heap.size,0,none⟩) l.length l:=by
 refine⟨rfl,aG,fun _=>⟨_,rfl,fun j p hj=>⟨[.string p],rfl,rfl,fun i u hu=>?_⟩⟩⟩
 cases i with
 |zero=>
  simp at hu;subst hu;rw[show Kd.string.sz=1 from rfl,Nat.mul_one,Nat.add_zero,add_plain,aj (aR W _) j];simp[hj]
 |succ i=>simp at hu
theorem Zd (l:List ByteArray)(s:ByteArray)(hl:l.length≤100)(W:World):Calls Tryz.prog 89 #[.string s,.slice (some ⟨W.heap.size,0,none⟩) l.length l.length] (W.alloc (.cells (l.map Value.string).toArray 9)) (aH W (jE l s)):=by
 refine(IU l s aG _ l.length (Nat.le_refl _) _ (agQ W l hl)).mono ?_;rintro e w' ⟨rfl,hd⟩;exact⟨rfl,(au (Below.refl _ _) _).trans (eD hd)⟩
theorem QO (k:Int)(s:ByteArray)(n:Int)(A:Option Addr)(len c:Nat)(w:World)(p z0 tt:Bool)(hz0:(k != 12)=z0)(hp:∀W,Below w.heap.size w W→Calls Tryz.prog 44 #[.agg #[.int .i64 k,.string s,.int .i64 n,.slice A len c]] W (aH W p))(hbad:(z0||!p)=true):
  Calls Tryz.prog 90 #[.agg #[.int .i64 k,.string s,.int .i64 n,.slice A len c],.bool tt] w (aH w false):=by
 have HP:=hide hp;have HBAD:=hide hbad;clear hp hbad;refine GD ?_;intro HB0;go_enter Tryz.func90,Tryz.ntmps90;go_wp2_with (go_at_call 44;refine(HP.out _ HB0.out).mono ?_;rintro e w1 ⟨rfl,h1⟩;obtain⟨c10,c11,c12,c13,hb⟩:=ji h1;have HB1:=hide hb;clear h1 hb)
 all_goals first|(go_ret;first|exact⟨rfl,HB1.out⟩|exact⟨rfl,HB0.out⟩)|(exfalso;have h:=HBAD.out;simp_all)
structure RUp (m:Nat):Prop where
 E:Tl 40 (.i,.E) m
 T:Tl 41 (.i,.T) m
 S:Tl 42 (.i,.S) m
section
variable {m:Nat} (u:RUp m)
include u
theorem rTO:Tl 91 (.no,.T) m:=fun x hx hf A c W hr=>by
 obtain⟨k,s,n,l⟩:=x;exact ao1 k s n A l.length c W _ _ (fun W2 _=>oH ⟨k,s,n,l⟩ A c W2) (fun W2 h=>u.T ⟨k,s,n,l⟩ hx hf A c W2 (hr.below h))
theorem rB:Tl 92 (.bk,.S) m:=fun x hx hf A c W hr=>by
 obtain⟨k,s,n,l⟩:=x;exact ab8 k s n A l.length c W _ _ rfl (fun W2 h=>u.S ⟨k,s,n,l⟩ hx hf A c W2 (hr.below h))
theorem rEX (l:List Tr)(hs:∀y,y∈l→SizeOf.sizeOf y≤m)(hf:∀y,y∈l→Fit y)(hl:l.length≤1099511627776)(A:Option Addr)(c:Nat)(W:World)(h:Kd.C KT W A l.length l)(ht:jU W):Calls Tryz.prog 86 #[.slice A l.length c] W (aH W (l.all (Q .E))):=
 ab9 l hl hf A c W h ht (fun y hy A2 c2 W2 _ hr=>u.E y (hs y hy) (hf y hy) A2 c2 W2 hr)
theorem rPF (x:Tr)(hx:SizeOf.sizeOf x≤m+1)(hf:Fit x)(A:Option Addr)(c:Nat)(W:World)(hr:Rd W x A c):Calls Tryz.prog 90 #[nd x A c,.bool false] W (aH W (Q .P x)):=by
 obtain⟨k,s,n,l⟩:=x;have hs:=jX hx;by_cases hk:k=12
 ·subst hk
  cases hp:lT s n with
  |true=>
   refine aK ?_ (akh s n hp l hf.len2 (fun y hy=>hf.kid hy) A c W hr.kids hr.tab (fun y hy t ht A2 c2 W2 _ hr2=>aK rfl (rTO u t E8 ((hf.kid (x:=(⟨12,s,n,l⟩:Tr)) hy).kid ht) A2 c2 W2 hr2)) (fun t A2 c2 W2=>oH t A2 c2 W2));rw[Q,hp,LD];simp
  |false=>
   refine aK ?_ (QO 12 s n A l.length c W false false false Nr (fun W2 _=>aK hp (bD _ s n A l.length c W2)) qo);rw[Q,hp];simp
 ·refine aK ?_ (QO k s n A l.length c W (lT s n) true false MU (fun W2 _=>bD _ s n A l.length c W2) qo)
  rw[Q];simp[hk]
theorem rPT (x:Tr)(hx:SizeOf.sizeOf x≤m+1)(hf:Fit x)(A:Option Addr)(c:Nat)(W:World)(hr:Rd W x A c):Calls Tryz.prog 90 #[nd x A c,.bool true] W (aH W (Q .PT x)):=by
 obtain⟨k,s,n,l⟩:=x;have hs:=jX hx;by_cases hk:k=12
 ·subst hk
  cases hp:lT s n with
  |true=>
   refine aK ?_ (akm s n hp l hf.len2 (fun y hy=>hf.kid hy) A c W hr.kids hr.tab (fun y hy t ht A2 c2 W2 _ hr2=>aK rfl (rTO u t E8 ((hf.kid (x:=(⟨12,s,n,l⟩:Tr)) hy).kid ht) A2 c2 W2 hr2)) (fun t A2 c2 W2=>oH t A2 c2 W2));rw[Q,hp,LD];simp
  |false=>
   refine aK ?_ (QO 12 s n A l.length c W false false true Nr (fun W2 _=>aK hp (bD _ s n A l.length c W2)) qo);rw[Q,hp];simp
 ·refine aK ?_ (QO k s n A l.length c W (lT s n) true true MU (fun W2 _=>bD _ s n A l.length c W2) qo)
  rw[Q];simp[hk]
theorem Ze (l:List Tr)(hs:∀y,y∈l→SizeOf.sizeOf y≤m)(hf:∀y,y∈l→Fit y)(A:Option Addr)(c:Nat)(W:World)(hr:Rd W ⟨0,⟨#[]⟩,0,l⟩ A c):Calls Tryz.prog 88 #[.slice A l.length c] W (aH W (QR [(.i,.P),(.no,.T),(.bk,.S)] l)):=by
 by_cases hl:l.length=3
 ·obtain⟨a,b,d,rfl⟩:=Zc hl
  obtain⟨ad,A0,c0,rfl,r0,q0⟩:=sw (x:=⟨0,⟨#[]⟩,0,[a,b,d]⟩) hr (y:=a) rfl;obtain⟨A1,c1,r1,q1⟩:=DU (x:=⟨0,⟨#[]⟩,0,[a,b,d]⟩) hr 0 (y:=b) rfl;obtain⟨A2,c2,r2,q2⟩:=DU (x:=⟨0,⟨#[]⟩,0,[a,b,d]⟩) hr 1 (y:=d) rfl;rw[QR3];exact agK ad c W a.f0 a.f1 a.f2 A0 a.f3.length c0 b.f0 b.f1 b.f2 A1 b.f3.length c1 d.f0 d.f1 d.f2 A2 d.f3.length c2 _ _ _ (fun W2 h=>⟨(q0.below h).1,(q0.below h).2.1,(q0.below h).2.2.1,(q0.below h).2.2.2,(q1.below h).1,(q1.below h).2.1,(q1.below h).2.2.1,(q1.below h).2.2.2,(q2.below h).1,(q2.below h).2.1,(q2.below h).2.2.1,(q2.below h).2.2.2⟩) (fun W2 h=>rPF u a (Nat.le_succ_of_le (hs a qo)) (hf a qo) A0 c0 W2 (r0.below h)) (fun W2 h=>rTO u b (hs b qo) (hf b qo) A1 c1 W2 (r1.below h)) (fun W2 h=>rB u d (hs d qo) (hf d qo) A2 c2 W2 (r2.below h))
 ·rw[mI gY]
  exact agL A l.length c W (mJ hl)
theorem apw:Tl 40 (.i,.E) (m+1):=fun x hx hf A c W hr=>by
 obtain⟨k,s,n,l⟩:=x;have hs:=jX hx;refine aK (b:=Q .E ⟨k,s,n,l⟩) rfl ?_;rw[Q];by_cases h8:k=8
 ·subst h8
  simp only[reduceIte,Int.reduceEq,or_true,true_or,or_self,or_false,false_or];rw[LD];exact re8 s n A l.length c W _ _ (fun W2 _=>bD _ s n _ _ c W2) (fun W2 h=>rEX u l hs (fun y hy=>hf.kid hy) hf.len2 A c W2 (hr.below h).kids (hr.below h).tab)
 by_cases h9:k=9
 ·subst h9
  simp only[reduceIte,Int.reduceEq,or_true,true_or,or_self,or_false,false_or];rw[LD];exact aK (Bool.and_comm _ _) (re9 s n l hf.len2 (fun y hy=>hf.kid hy) A c W hr.kids hr.tab (fun y hy t ht A2 c2 W2 _ hr2=>u.E t E8 ((hf.kid (x:=(⟨9,s,n,l⟩:Tr)) hy).kid ht) A2 c2 W2 hr2))
 by_cases h11:k=11
 ·subst h11
  simp only[reduceIte,Int.reduceEq,or_true,true_or,or_self,or_false,false_or];exact ao2 s n A l.length c W _ _ (fun W2 _=>bD _ s n _ _ c W2) (fun W2 h=>Ze u l hs (fun y hy=>hf.kid hy) A c W2 ⟨(hr.below h).kids,(hr.below h).cap,(hr.below h).tab⟩)
 by_cases Rx:k=15
 ·subst Rx
  simp only[reduceIte,Int.reduceEq,or_true,true_or,or_self,or_false,false_or];exact aK (by rw[←aei]) (ao3 s n A l.length c W (unB s) _ _ rfl _ (xZ l 1) (fun W2 b hb=>by subst hb;rw[←ako];exact Zd unL s wN W2) (fun W2 h=>rEX u l hs (fun y hy=>hf.kid hy) hf.len2 A c W2 (hr.below h).kids (hr.below h).tab))
 by_cases h16:k=16
 ·subst h16
  simp only[reduceIte,Int.reduceEq,or_true,true_or,or_self,or_false,false_or];exact aK (by rw[←aej]) (ao4 s n A l.length c W (Rs s) _ _ rfl _ (xZ l 2) (fun W2 b hb=>by subst hb;rw[←agP];exact Zd agO s wN W2) (fun W2 h=>rEX u l hs (fun y hy=>hf.kid hy) hf.len2 A c W2 (hr.below h).kids (hr.below h).tab))
 by_cases h17:k=17
 ·subst h17
  simp only[reduceIte,Int.reduceEq,or_true,true_or,or_self,or_false,false_or];exact aK (by rw[←akn]) (ao5 s n A l.length c W _ _ _ (xZ l 3) (fun W2 _=>bD _ s n _ _ c W2) (fun W2 h=>rEX u l hs (fun y hy=>hf.kid hy) hf.len2 A c W2 (hr.below h).kids (hr.below h).tab))
 by_cases h18:k=18
 ·subst h18
  simp only[reduceIte,Int.reduceEq,or_true,true_or,or_self,or_false,false_or];by_cases hl:l.length=2
  ·obtain⟨a,b,rfl⟩:=SY hl
   obtain⟨ad,A0,c0,rfl,r0,q0⟩:=sw (x:=⟨18,s,n,[a,b]⟩) hr (y:=a) rfl;obtain⟨A1,c1,r1,q1⟩:=DU (x:=⟨18,s,n,[a,b]⟩) hr 0 (y:=b) rfl;rw[QR2];exact aK (by simp only[wq,BH,List.all_cons,List.all_nil,Bool.and_true];cases lT s n<;>cases Q .E a<;>cases Q .E b<;>cases(a.f0==6||(a.f0==21||a.f0==22))<;>rfl) (ao6 s n ad c W a.f0 a.f1 a.f2 A0 a.f3.length c0 b.f0 b.f1 b.f2 A1 b.f3.length c1 _ _ _ rfl _ rfl _ rfl (fun W2 h=>⟨(q0.below h).1,(q0.below h).2.1,(q0.below h).2.2.1,(q0.below h).2.2.2,(q1.below h).1,(q1.below h).2.1,(q1.below h).2.2.1,(q1.below h).2.2.2⟩) (fun W2 _=>bD _ s n _ _ c W2) (fun W2 h=>rEX u [a,b] hs (fun y hy=>hf.kid hy) hf.len2 (some ad) c W2 (hr.below h).kids (hr.below h).tab))
  ·rw[mI gY]
   exact aK qo (aj9 s n A l.length c W _ (mJ hl) (fun W2 _=>bD _ s n _ _ c W2))
 by_cases h19:k=19
 ·subst h19
  simp only[reduceIte,Int.reduceEq,or_true,true_or,or_self,or_false,false_or];rw[LD];exact aK (by simp only[Bool.and_assoc]) (ao7 s n A l.length c W _ _ (!l.isEmpty) (by rw[ab'];cases l<;>simp) (fun W2 _=>bD _ s n _ _ c W2) (fun W2 h=>rEX u l hs (fun y hy=>hf.kid hy) hf.len2 A c W2 (hr.below h).kids (hr.below h).tab))
 by_cases h20:k=20
 ·subst h20
  simp only[reduceIte,Int.reduceEq,or_true,true_or,or_self,or_false,false_or];rw[LD];exact ao8 s n A l.length c W _ _ _ rfl (fun W2 h=>jy s Bz W2) (fun W2 h=>rEX u l hs (fun y hy=>hf.kid hy) hf.len2 A c W2 (hr.below h).kids (hr.below h).tab)
 by_cases h21:k=21
 ·subst h21
  simp only[reduceIte,Int.reduceEq,or_true,true_or,or_self,or_false,false_or];exact aK (by rw[Bool.and_assoc,←aei,Bool.and_assoc]) (ao9 s n A l.length c W _ _ _ rfl _ (xZ l 1) (fun W2 h=>m_ s Bz W2) (fun W2 h=>rEX u l hs (fun y hy=>hf.kid hy) hf.len2 A c W2 (hr.below h).kids (hr.below h).tab))
 by_cases h22:k=22
 ·subst h22
  simp only[reduceIte,Int.reduceEq,or_true,true_or,or_self,or_false,false_or];exact aK (by rw[←aej]) (ao' s n A l.length c W _ _ _ (xZ l 2) (fun W2 _=>bD _ s n _ _ c W2) (fun W2 h=>rEX u l hs (fun y hy=>hf.kid hy) hf.len2 A c W2 (hr.below h).kids (hr.below h).tab))
 simp only[h8,h9,h11,Rx,h16,h17,h18,h19,h20,h21,h22,if_false,or_self];by_cases h1:k=1
 ·subst h1
  exact aK lZ (re1 s n A l.length c W _ _ rfl _ rfl (fun W2 _=>jG _ s n A l c W2))
 by_cases h2:k=2
 ·subst h2
  exact aK lZ (re2 s n A l.length c W _ _ _ rfl (fun W2 h=>su s Bz W2) (fun W2 _=>jG _ s n A l c W2))
 by_cases h3:k=3
 ·subst h3
  exact aK lZ (re3 s n A l.length c W _ _ rfl _ rfl (fun W2 _=>jG _ s n A l c W2))
 by_cases h4:k=4
 ·subst h4
  exact aK lZ (re4 s n A l.length c W _ _ (fun W2 _=>bD _ s n _ _ c W2) (fun W2 _=>jG _ s n A l c W2))
 by_cases h5:k=5
 ·subst h5
  exact aK lZ (re5 s n A l.length c W _ _ (fun W2 _=>bD _ s n _ _ c W2) (fun W2 _=>jG _ s n A l c W2))
 by_cases h7:k=7
 ·subst h7
  exact aK lZ (re7 s n A l.length c W _ _ (fun W2 _=>bD _ s n _ _ c W2) (fun W2 _=>jG _ s n A l c W2))
 by_cases h6:k=6
 ·subst h6
  exact aK lZ (re6 s n A l.length c W _ _ _ rfl (fun W2 h=>jy s Bz W2) (fun W2 _=>jG _ s n A l c W2))
 exact aK (by unfold qH;simp only[h1,h2,h3,h4,h5,h6,h7,if_false,or_self];simp) (red k s n A l.length c W Zu wz (by simpa using h3) (by simpa using h4) (by simpa using h5) YA (by simpa using h7) (by simpa using h8) (by simpa using h9) (by simpa using h11) (by simpa using Rx) (by simpa using h16) (by simpa using h17) (by simpa using h18) (by simpa using h19) (by simpa using h20) (by simpa using h21) (by simpa using h22))
theorem apx:Tl 41 (.i,.T) (m+1):=fun x hx hf A c W hr=>by
 obtain⟨k,s,n,l⟩:=x;have hs:=jX hx;refine aK (b:=Q .T ⟨k,s,n,l⟩) rfl ?_;rw[Q];by_cases qI:k=30
 ·subst qI
  simp only[reduceIte,Int.reduceEq,or_true,true_or,or_self,or_false,false_or];exact ao_ s n A l.length c W _ _ _ rfl (fun W2 _=>jG _ s n A l c W2) (fun W2 h=>jy s Bz W2)
 by_cases h31:k=31
 ·subst h31
  simp only[reduceIte,Int.reduceEq,or_true,true_or,or_self,or_false,false_or];by_cases hl:l.length=1
  ·obtain⟨a,rfl⟩:=lone hl
   obtain⟨ad,A0,c0,rfl,r0,q0⟩:=sw (x:=⟨31,s,n,[a]⟩) hr (y:=a) rfl;rw[QR1];exact aK Nr (apa s n ad c W a.f0 a.f1 a.f2 A0 a.f3.length c0 _ _ (fun W2 h=>⟨(q0.below h).1,(q0.below h).2.1,(q0.below h).2.2.1,(q0.below h).2.2.2⟩) (fun W2 _=>bD _ s n _ _ c W2) (fun W2 h=>u.T a (hs a qo) (hf.kid qo) A0 c0 W2 (r0.below h)))
  ·rw[mI gY]
   exact aK qo (aj' s n A l.length c W _ (mJ hl) (fun W2 _=>bD _ s n _ _ c W2))
 by_cases h32:k=32
 ·subst h32
  simp only[reduceIte,Int.reduceEq,or_true,true_or,or_self,or_false,false_or];rw[yH];exact aK (Bool.and_comm _ _) (apl s n l hf.len2 (fun y hy=>hf.kid hy) A c W hr.kids hr.tab (fun y hy A2 c2 W2 _ hr2=>u.T y (hs y hy) (hf.kid hy) A2 c2 W2 hr2))
 by_cases h33:k=33
 ·subst h33
  simp only[reduceIte,Int.reduceEq,or_true,true_or,or_self,or_false,false_or];rw[LD];exact aK (by cases nN l<;>cases lT s n<;>simp) (apm s n l hf.len2 (fun y hy=>hf.kid hy) A c W hr.kids hr.tab (fun y hy t ht A2 c2 W2 _ hr2=>u.T t E8 ((hf.kid (x:=(⟨33,s,n,l⟩:Tr)) hy).kid ht) A2 c2 W2 hr2))
 by_cases h35:k=35
 ·subst h35
  simp only[reduceIte,Int.reduceEq,or_true,true_or,or_self,or_false,false_or];by_cases hl:l.length=2
  ·obtain⟨a,b,rfl⟩:=SY hl
   obtain⟨ad,A0,c0,rfl,r0,q0⟩:=sw (x:=⟨35,s,n,[a,b]⟩) hr (y:=a) rfl;obtain⟨A1,c1,r1,q1⟩:=DU (x:=⟨35,s,n,[a,b]⟩) hr 0 (y:=b) rfl;rw[QR2];exact aK Nr (apb s n ad c W a.f0 a.f1 a.f2 A0 a.f3.length c0 b.f0 b.f1 b.f2 A1 b.f3.length c1 _ _ _ (fun W2 h=>⟨(q0.below h).1,(q0.below h).2.1,(q0.below h).2.2.1,(q0.below h).2.2.2,(q1.below h).1,(q1.below h).2.1,(q1.below h).2.2.1,(q1.below h).2.2.2⟩) (fun W2 _=>bD _ s n _ _ c W2) (fun W2 h=>rPT u a (Nat.le_succ_of_le (hs a qo)) (hf.kid qo) A0 c0 W2 (r0.below h)) (fun W2 h=>u.T b (hs b qo) (hf.kid qo) A1 c1 W2 (r1.below h)))
  ·rw[mI gY]
   exact aK qo (aj_ s n A l.length c W _ (mJ hl) (fun W2 _=>bD _ s n _ _ c W2))
 simp only[qI,h31,h32,h33,h35,if_false,or_self];exact rtd k s n A l.length c W (by simpa using qI) (by simpa using h31) (by simpa using h32) (by simpa using h33) (by simpa using h35)
theorem apy:Tl 42 (.i,.S) (m+1):=fun x hx hf A c W hr=>by
 obtain⟨k,s,n,l⟩:=x;have hs:=jX hx;refine aK (b:=Q .S ⟨k,s,n,l⟩) rfl ?_;rw[Q];by_cases Dq:k=40
 ·subst Dq
  simp only[reduceIte,Int.reduceEq,or_true,true_or,or_self,or_false,false_or];by_cases hl:l.length=2
  ·obtain⟨a,b,rfl⟩:=SY hl
   obtain⟨ad,A0,c0,rfl,r0,q0⟩:=sw (x:=⟨40,s,n,[a,b]⟩) hr (y:=a) rfl;obtain⟨A1,c1,r1,q1⟩:=DU (x:=⟨40,s,n,[a,b]⟩) hr 0 (y:=b) rfl;rw[QR2];exact aK Nr (apc s n ad c W a.f0 a.f1 a.f2 A0 a.f3.length c0 b.f0 b.f1 b.f2 A1 b.f3.length c1 _ _ _ _ rfl _ rfl (fun W2 h=>⟨(q0.below h).1,(q0.below h).2.1,(q0.below h).2.2.1,(q0.below h).2.2.2,(q1.below h).1,(q1.below h).2.1,(q1.below h).2.2.1,(q1.below h).2.2.2⟩) (fun W2 h=>jy s Bz W2) (fun W2 h=>(rTO u) a (hs a qo) (hf.kid qo) A0 c0 W2 (r0.below h)) (fun W2 h=>u.E b (hs b qo) (hf.kid qo) A1 c1 W2 (r1.below h)))
  ·rw[mI gY]
   exact aK qo (akb s n A l.length c W _ _ rfl _ rfl (mJ hl) (fun W2 h=>jy s Bz W2))
 by_cases lU:k=41
 ·subst lU
  simp only[reduceIte,Int.reduceEq,or_true,true_or,or_self,or_false,false_or];exact apd s n A l.length c W _ _ _ rfl (fun W2 h=>jy s Bz W2) (fun W2 h=>Ze u l hs (fun y hy=>hf.kid hy) A c W2 ⟨(hr.below h).kids,(hr.below h).cap,(hr.below h).tab⟩)
 by_cases h47:k=47
 ·subst h47
  simp only[reduceIte,Int.reduceEq,or_true,true_or,or_self,or_false,false_or];by_cases hl:l.length=1
  ·obtain⟨a,rfl⟩:=lone hl
   obtain⟨ad,A0,c0,rfl,r0,q0⟩:=sw (x:=⟨47,s,n,[a]⟩) hr (y:=a) rfl;rw[QR1];exact aK Nr (ape s n ad c W a.f0 a.f1 a.f2 A0 a.f3.length c0 _ _ (fun W2 h=>⟨(q0.below h).1,(q0.below h).2.1,(q0.below h).2.2.1,(q0.below h).2.2.2⟩) (fun W2 _=>bD _ s n _ _ c W2) (fun W2 h=>u.E a (hs a qo) (hf.kid qo) A0 c0 W2 (r0.below h)))
  ·rw[mI gY]
   exact aK qo (akc s n A l.length c W _ (mJ hl) (fun W2 _=>bD _ s n _ _ c W2))
 by_cases h51:k=51
 ·subst h51
  simp only[reduceIte,Int.reduceEq,or_true,true_or,or_self,or_false,false_or];by_cases hl:l.length=1
  ·obtain⟨a,rfl⟩:=lone hl
   obtain⟨ad,A0,c0,rfl,r0,q0⟩:=sw (x:=⟨51,s,n,[a]⟩) hr (y:=a) rfl;rw[QR1];exact aK Nr (apf s n ad c W a.f0 a.f1 a.f2 A0 a.f3.length c0 _ _ (fun W2 h=>⟨(q0.below h).1,(q0.below h).2.1,(q0.below h).2.2.1,(q0.below h).2.2.2⟩) (fun W2 _=>bD _ s n _ _ c W2) (fun W2 h=>u.E a (hs a qo) (hf.kid qo) A0 c0 W2 (r0.below h)))
  ·rw[mI gY]
   exact aK qo (akd s n A l.length c W _ (mJ hl) (fun W2 _=>bD _ s n _ _ c W2))
 by_cases h48:k=48
 ·subst h48
  simp only[reduceIte,Int.reduceEq,or_true,true_or,or_self,or_false,false_or];by_cases hl:l.length=3
  ·obtain⟨a,b,d,rfl⟩:=Zc hl
   obtain⟨ad,A0,c0,rfl,r0,q0⟩:=sw (x:=⟨48,s,n,[a,b,d]⟩) hr (y:=a) rfl;obtain⟨A1,c1,r1,q1⟩:=DU (x:=⟨48,s,n,[a,b,d]⟩) hr 0 (y:=b) rfl;obtain⟨A2,c2,r2,q2⟩:=DU (x:=⟨48,s,n,[a,b,d]⟩) hr 1 (y:=d) rfl;rw[QR3];exact aK Nr (apg s n ad c W a.f0 a.f1 a.f2 A0 a.f3.length c0 b.f0 b.f1 b.f2 A1 b.f3.length c1 d.f0 d.f1 d.f2 A2 d.f3.length c2 _ _ _ _ _ (fun W2 h=>⟨(q0.below h).1,(q0.below h).2.1,(q0.below h).2.2.1,(q0.below h).2.2.2,(q1.below h).1,(q1.below h).2.1,(q1.below h).2.2.1,(q1.below h).2.2.2,(q2.below h).1,(q2.below h).2.1,(q2.below h).2.2.1,(q2.below h).2.2.2⟩) (fun W2 _=>bD _ s n _ _ c W2) (fun W2 h=>u.E a (hs a qo) (hf.kid qo) A0 c0 W2 (r0.below h)) (fun W2 h=>(rB u) b (hs b qo) (hf.kid qo) A1 c1 W2 (r1.below h)) (fun W2 h=>oH d A2 c2 W2) (fun W2 h=>(rB u) d (hs d qo) (hf.kid qo) A2 c2 W2 (r2.below h)))
  ·rw[mI gY]
   exact aK qo (ake s n A l.length c W _ (mJ hl) (fun W2 _=>bD _ s n _ _ c W2))
 by_cases h49:k=49
 ·subst h49
  simp only[reduceIte,Int.reduceEq,or_true,true_or,or_self,or_false,false_or];by_cases hl:l.length=2
  ·obtain⟨a,b,rfl⟩:=SY hl
   obtain⟨ad,A0,c0,rfl,r0,q0⟩:=sw (x:=⟨49,s,n,[a,b]⟩) hr (y:=a) rfl;obtain⟨A1,c1,r1,q1⟩:=DU (x:=⟨49,s,n,[a,b]⟩) hr 0 (y:=b) rfl;rw[QR2];exact aK Nr (aph s n ad c W a.f0 a.f1 a.f2 A0 a.f3.length c0 b.f0 b.f1 b.f2 A1 b.f3.length c1 _ _ _ (fun W2 h=>⟨(q0.below h).1,(q0.below h).2.1,(q0.below h).2.2.1,(q0.below h).2.2.2,(q1.below h).1,(q1.below h).2.1,(q1.below h).2.2.1,(q1.below h).2.2.2⟩) (fun W2 _=>bD _ s n _ _ c W2) (fun W2 h=>u.E a (hs a qo) (hf.kid qo) A0 c0 W2 (r0.below h)) (fun W2 h=>(rB u) b (hs b qo) (hf.kid qo) A1 c1 W2 (r1.below h)))
  ·rw[mI gY]
   exact aK qo (akf s n A l.length c W _ (mJ hl) (fun W2 _=>bD _ s n _ _ c W2))
 by_cases h50:k=50
 ·subst h50
  simp only[reduceIte,Int.reduceEq,or_true,true_or,or_self,or_false,false_or];by_cases hl:l.length=1
  ·obtain⟨a,rfl⟩:=lone hl
   obtain⟨ad,A0,c0,rfl,r0,q0⟩:=sw (x:=⟨50,s,n,[a]⟩) hr (y:=a) rfl;rw[QR1];exact aK Nr (apj s n ad c W a.f0 a.f1 a.f2 A0 a.f3.length c0 _ _ _ (fun W2 h=>⟨(q0.below h).1,(q0.below h).2.1,(q0.below h).2.2.1,(q0.below h).2.2.2⟩) (fun W2 _=>bD _ s n _ _ c W2) (fun W2 h=>oH a A0 c0 W2) (fun W2 h=>u.E a (hs a qo) (hf.kid qo) A0 c0 W2 (r0.below h)))
  ·rw[mI gY]
   exact aK qo (akg s n A l.length c W _ (mJ hl) (fun W2 _=>bD _ s n _ _ c W2))
 by_cases qJ:k=52
 ·subst qJ
  simp only[reduceIte,Int.reduceEq,or_true,true_or,or_self,or_false,false_or];rw[LD];exact aK (Bool.and_comm _ _) (apk s n l hf.len2 (fun y hy=>hf.kid hy) A c W hr.kids hr.tab (fun y hy A2 c2 W2 _ hr2=>u.S y (hs y hy) (hf.kid hy) A2 c2 W2 hr2))
 simp only[Dq,lU,h47,h48,h49,h50,h51,qJ,if_false,or_self];exact rsd k s n A l.length c W (by simpa using Dq) (by simpa using lU) (by simpa using h47) (by simpa using h48) (by simpa using h49) (by simpa using h50) (by simpa using h51) (by simpa using qJ)
theorem Zf:RUp (m+1):=⟨apw u,apx u,apy u⟩
end
theorem yg:∀m,RUp m
 |0=>⟨fun x hx=>o8,fun x hx=>o8,fun x hx=>o8⟩
 |m+1=>Zf (yg m)
end Go.Proofs.YtldgmneijipbjaaGreatDoor.H
