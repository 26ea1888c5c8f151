import Derived.Test.YtldgmneijipbjaaGreatDoorBS5
import Derived.Test.YtldgmneijipbjaaGreatDoorBS1
import Derived.Test.YtldgmneijipbjaaGreatDoorBMac
set_option linter.unusedVariables false
set_option linter.unusedSimpArgs false
set_option maxRecDepth 100000
set_option maxHeartbeats 16000000
namespace Go.Proofs.YtldgmneijipbjaaGreatDoor.H
open Go.RowKit Go.Shelf Go.Proofs.YtldgmneijipbjaaGreatDoorW.PrintWords Go.Proofs.YtldgmneijipbjaaGreatDoorW.PrintLast Go.Proofs.YtldgmneijipbjaaGreatDoorW.PrintMore
open PScopeOwn
theorem aK {K:Nat}{args:Array Value}{w:World}{b b':Bool}(e:b=b')(h:Calls Tryz.prog K args w (aH w b)):Calls Tryz.prog K args w (aH w b'):=e▸h
theorem lH (l:List Tr):((l.length:Int)==0)=l.isEmpty:=by
 cases l with
 |nil=>rfl
 |cons x l=>simp only[List.length_cons,List.isEmpty_cons,beq_eq_false_iff_ne];omega
theorem aaW (l:List Tr):decide (0<l.length)=!l.isEmpty:=by cases l<;>simp
theorem aaX (l:List Tr):decide ((2:Int)≤(l.length:Int))=decide (2≤l.length):=by
 by_cases h:2≤l.length
 ·rw[decide_eq_true h,decide_eq_true aG]
 ·rw[decide_eq_false h,decide_eq_false aG]
def Tl (K:Nat)(t:Wr×Co)(m:Nat):Prop:=∀x:Tr,SizeOf.sizeOf x≤m→Fit x→∀A c W,Rd W x A c→Calls Tryz.prog K #[nd x A c] W (aH W (wq t x))
theorem Tl.mono {K:Nat}{t:Wr×Co}{m m':Nat}(h:Tl K t m)(hm:m'≤m):Tl K t m':=fun x hx=>h x (Nat.le_trans hx hm)
theorem en {K:Nat}{f:Func}(h:Tryz.prog.funcs[K]?=some f)(h1:(f.name== "runtime.NumGoroutine")=false){b:Code}(h2:f.body=some b):Enters Tryz.prog K:=enters_of h h1 h2
section
variable {m:Nat}
theorem BK {K:Nat}{t:Wr×Co}(he:Enters Tryz.prog K)(hT:Tl K t m)(l:List Tr)(hs:∀y,y∈l→SizeOf.sizeOf y≤m)(hf:∀y,y∈l→Fit y)(hl:l.length≤2513169434843)(A:Option Addr)(c:Nat)(w:World)(h:Kd.C KT w A l.length l)(ht:jU w):
  Calls Tryz.prog 28 #[.slice A l.length c,D9 K] w (aH w (QL t.1 t.2 l)):=by
 rw[yH];exact BG K he l (wq t) hl A c w h ht (fun y hy A c W hW hr=>hT y (hs y hy) (hf y hy) A c W hr)
def jW (m:Nat)(fs:List (Nat×(Wr×Co))):Prop:=∀f,f∈fs→Enters Tryz.prog f.1∧Tl f.1 f.2 m
theorem jW.nil:jW m []:=fun f h=>by cases h
theorem jW.cons {f:Nat×(Wr×Co)}{fs:List (Nat×(Wr×Co))}(h1:Enters Tryz.prog f.1)(h2:Tl f.1 f.2 m)(h:jW m fs):jW m (f::fs):=fun g hg=>by
 rcases List.mem_cons.1 hg with rfl|hg
 ·exact⟨h1,h2⟩
 ·exact h g hg
theorem jP {fs:List (Nat×(Wr×Co))}(hT:jW m fs)(hm:fs.length≤1000)(x:Tr)(hs:∀y,y∈x.f3→SizeOf.sizeOf y≤m)(hf:Fit x)(A:Option Addr)(c:Nat)(w:World)(h:Rd w x A c):
  Calls Tryz.prog 55 #[nd x A c,.slice (some ⟨w.heap.size,0,none⟩) fs.length fs.length] (w.alloc (.cells (fs.map (fun f=>D9 f.1)).toArray 39)) (aH w (QR (fs.map (·.2)) x.f3)):=by
 have h0:=yG x (fs.map (fun f=>((⟨f.1,none⟩:FV),wq f.2))) 39 hf.len (by simpa using hm) (fun f hf2=>by
  obtain⟨g,hg,rfl⟩:=List.mem_map.1 hf2;exact(hT g hg).1) A c w h (fun i f y hi hy=>by
  rw[List.getElem?_map]at hi;obtain⟨g,hg,rfl⟩:=Option.map_eq_some_iff.1 hi;intro A2 c2 W2 hW2 hr2;exact(hT g (List.mem_of_getElem? hg)).2 y (hs y (bZ hy)) (hf.kid (bZ hy)) A2 c2 W2 hr2)
 rw[vZ];rw[List.map_map,List.map_map,List.length_map]at h0;rw[List.map_map];exact h0
theorem uW (x:Tr)(A:Option Addr)(c:Nat)(W:World):Calls Tryz.prog 108 #[nd x A c] W (aH W (gT x)):=by
 obtain⟨k,s,n,l⟩:=x;exact aij k s n A l.length c W (lT s n) _ rfl _ (lH l) (fun W _=>bI k s n A l.length c W)
structure Up (m:Nat):Prop where
 E:Tl 35 (.i,.E) m
 T:Tl 36 (.i,.T) m
 S:Tl 32 (.i,.S) m
theorem Ea:Enters Tryz.prog 35:=en Tryz.func35 dL rfl
theorem enT:Enters Tryz.prog 36:=en Tryz.func36 dL rfl
theorem enS:Enters Tryz.prog 32:=en Tryz.func32 dL rfl
theorem Ru:Enters Tryz.prog 61:=en Tryz.func61 dL rfl
theorem am7:Enters Tryz.prog 65:=en Tryz.func65 dL rfl
theorem enB:Enters Tryz.prog 63:=en Tryz.func63 dL rfl
theorem am8:Enters Tryz.prog 64:=en Tryz.func64 dL rfl
theorem am9:Enters Tryz.prog 72:=en Tryz.func72 dL rfl
theorem enP:Enters Tryz.prog 62:=en Tryz.func62 dL rfl
theorem ae8:Enters Tryz.prog 69:=en Tryz.func69 dL rfl
theorem am':Enters Tryz.prog 70:=en Tryz.func70 dL rfl
theorem am_:Enters Tryz.prog 74:=en Tryz.func74 dL rfl
theorem ana:Enters Tryz.prog 75:=en Tryz.func75 dL rfl
theorem anb:Enters Tryz.prog 113:=en Tryz.func113 dL rfl
theorem anc:Enters Tryz.prog 112:=en Tryz.func112 dL rfl
variable (u:Up m)
include u
theorem Rv:Tl 61 (.no,.T) m:=fun x hx hf A c W hr=>by
 have hx':=hx;have hf':=hf;have hr':=hr;obtain⟨k,s,n,l⟩:=x;exact wto k s n A l.length c W _ _ (fun W2 _=>uW ⟨k,s,n,l⟩ A c W2) (fun W2 h=>u.T ⟨k,s,n,l⟩ hx' hf' A c W2 (hr'.below h))
theorem ane:Tl 65 (.no,.E) m:=fun x hx hf A c W hr=>by
 obtain⟨k,s,n,l⟩:=x;exact weo k s n A l.length c W _ _ (fun W2 _=>uW ⟨k,s,n,l⟩ A c W2) (fun W2 h=>u.E ⟨k,s,n,l⟩ hx hf A c W2 (hr.below h))
theorem tlB:Tl 63 (.bk,.S) m:=fun x hx hf A c W hr=>by
 obtain⟨k,s,n,l⟩:=x;exact wb k s n A l.length c W _ _ rfl (fun W2 h=>u.S ⟨k,s,n,l⟩ hx hf A c W2 (hr.below h))
theorem anf:Tl 64 (.bn,.S) m:=fun x hx hf A c W hr=>by
 obtain⟨k,s,n,l⟩:=x;exact wbo k s n A l.length c W _ _ (fun W2 _=>uW ⟨k,s,n,l⟩ A c W2) (fun W2 h=>tlB u ⟨k,s,n,l⟩ hx hf A c W2 (hr.below h))
theorem ang:Tl 72 (.tg,.E) m:=fun x hx hf A c W hr=>by
 obtain⟨k,s,n,l⟩:=x;exact wtg k s n A l.length c W _ _ rfl _ rfl _ rfl (fun W2 h=>u.E ⟨k,s,n,l⟩ hx hf A c W2 (hr.below h))
theorem ae':Tl 69 (.nm,.E) m:=fun x hx hf A c W hr=>by
 obtain⟨k,s,n,l⟩:=x;exact wnm k s n A l.length c W _ _ rfl (fun W2 h=>u.E ⟨k,s,n,l⟩ hx hf A c W2 (hr.below h))
theorem anh:Tl 74 (.nu,.T) m:=fun x hx hf A c W hr=>by
 obtain⟨k,s,n,l⟩:=x;exact wtu k s n A l.length c W _ _ Nr (fun W2 h=>u.T ⟨k,s,n,l⟩ hx hf A c W2 (hr.below h))
end
theorem pF {x:Tr}(hf:Fit x){W W2:World}{A:Option Addr}{c:Nat}(hr:Rd W x A c)(h:Below W.heap.size W W2):Calls Tryz.prog 66 #[.string x.f1] W2 (aH W2 (eP x.f1)):=D_ x.f1 W2 (by have:=hf.str;omega) (hr.below h).tab
theorem vN {x:Tr}(hf:Fit x){W W2:World}{A:Option Addr}{c:Nat}(hr:Rd W x A c)(h:Below W.heap.size W W2):Calls Tryz.prog 54 #[.string x.f1] W2 (aH W2 (nH x.f1)):=aaV x.f1 W2 (by have:=hf.str;omega) (hr.below h).tab
theorem jX {k:Int}{s:ByteArray}{n:Int}{l:List Tr}{m:Nat}(h:SizeOf.sizeOf (⟨k,s,n,l⟩:Tr)≤m+1):∀y,y∈l→SizeOf.sizeOf y≤m:=fun y hy=>by have:=fJ (x:=(⟨k,s,n,l⟩:Tr)) hy;omega
theorem Rw (x:Tr)(hf:Fit x)(A:Option Addr)(c:Nat)(W:World)(hr:Rd W x A c):Calls Tryz.prog 73 #[nd x A c] W (aH W (qH x.f0 x.f1 x.f2)):=by
 obtain⟨k,s,n,l⟩:=x;unfold qH;simp only;by_cases h1:k=1
 ·subst h1;simp only[reduceIte];exact wl1 s n A l.length c W _ rfl _ rfl
 by_cases h2:k=2
 ·subst h2;simp only[reduceIte,Int.reduceEq];exact wl2 s n A l.length c W _ _ rfl (fun W2 h=>qG s W2 Jd (hr.below h).tab)
 by_cases h3:k=3
 ·subst h3;simp only[reduceIte,Int.reduceEq];exact wl3 s n A l.length c W _ rfl _ rfl
 by_cases h4:k=4
 ·subst h4;simp only[reduceIte,Int.reduceEq,true_or];exact wl4 s n A l.length c W _ (fun W2 _=>bI _ s n A l.length c W2)
 by_cases h5:k=5
 ·subst h5;simp only[reduceIte,Int.reduceEq,true_or,or_true];exact wl5 s n A l.length c W _ (fun W2 _=>bI _ s n A l.length c W2)
 by_cases h7:k=7
 ·subst h7;simp only[reduceIte,Int.reduceEq,or_true];exact wl7 s n A l.length c W _ (fun W2 _=>bI _ s n A l.length c W2)
 by_cases h6:k=6
 ·subst h6;simp only[reduceIte,Int.reduceEq,or_self];exact wl6 s n A l.length c W _ _ rfl (fun W2 h=>vN (x:=⟨6,s,n,l⟩) hf hr h)
 simp only[h1,h2,h3,h4,h5,h6,h7,if_false,or_self];exact wld k s n A l.length c W Zu wz (by simpa using h3) (by simpa using h4) (by simpa using h5) YA (by simpa using h7)
section
variable {m:Nat}
theorem tPO {K:Nat}{t:Wr×Co}{co:Co}(he:Enters Tryz.prog K)(hT:Tl K t m)(hco:∀k s n l,Q co ⟨k,s,n,l⟩=(k==13&&(nH s&&(n==0&&QR [t] l))))(x:Tr)(hx:SizeOf.sizeOf x≤m+1)(hf:Fit x)(A:Option Addr)(c:Nat)(W:World)(hr:Rd W x A c)(a:Addr)(ha:W.cell? a=some (D9 K)):
  Calls Tryz.prog 112 #[nd x A c,.pointer (some a)] W (aH W (x.f0==12&&(lT x.f1 x.f2&&(nN x.f3&&QL .i co x.f3)))):=by
 obtain⟨k,s,n,l⟩:=x;have hs:=jX hx;refine wpp k s n A l.length c W a _ _ _ _ rfl (fun W2 _=>bI _ s n A l.length c W2) (fun W2 h=>uf l (fun y hy=>hf.kid hy) hf.len A c W2 (hr.below h).kids (hr.below h).tab) (fun W2 h=>?_);rw[yH];refine UF 113 (some a) anb l (wq (.i,co)) hf.len A c W2 (hr.below h).kids (hr.below h).tab ?_;intro y hy A2 c2 W3 hW3 hr3;have hky:=hs y hy;have g_:Fit y:=hf.kid hy;obtain⟨k2,s2,n2,l2⟩:=y;refine aK (by simp only[wq,BH];rw[hco];try rfl) (am5 k2 s2 n2 A2 l2.length c2 W3 a K (ak hW3 (ak h ha)) (nH s2) _ _ rfl _ rfl (fun W4 h4=>vN g_ hr3 h4) (fun W4 h4=>jP (jW.cons (f:=(K,t)) he hT jW.nil) qo ⟨k2,s2,n2,l2⟩ (fun z hz=>by have:=fJ (x:=(⟨k2,s2,n2,l2⟩:Tr)) hz;omega) g_ A2 c2 W4 (hr3.below h4)))
variable (u:Up m)
include u
theorem ani:Tl 70 (.i,.Pr) (m+1):=fun x hx hf A c W hr=>by
 obtain⟨k,s,n,l⟩:=x;have hs:=jX hx;exact aK V7 (wpr k s n A l.length c W _ _ _ rfl _ rfl (fun W2 h=>pF hf hr h) (fun W2 h=>jP (jW.cons (f:=(35,(.i,.E))) Ea u.E jW.nil) wN ⟨_,s,n,l⟩ hs hf A c W2 (hr.below h)))
theorem aip:Tl 75 (.i,.TPr) (m+1):=fun x hx hf A c W hr=>by
 obtain⟨k,s,n,l⟩:=x;have hs:=jX hx;exact aK V7 (amV k s n A l.length c W _ _ _ rfl _ rfl (fun W2 h=>pF hf hr h) (fun W2 h=>jP (jW.cons (f:=(36,(.i,.T))) enT u.T jW.nil) wN ⟨_,s,n,l⟩ hs hf A c W2 (hr.below h)))
theorem tlP:Tl 62 (.i,.P) (m+1):=fun x hx hf A c W hr=>by
 have h0:=fun W2 a (h:Below W.heap.size W W2) ha=>tPO Ru (Rv u) (co:= .Pa) (fun k s n l=>by rw[Q]) x hx hf A c W2 (hr.below h) a ha;obtain⟨k,s,n,l⟩:=x;exact aK V7 (aaS k s n A l.length c W _ (fun W2 a h ha=>h0 W2 a h ha))
theorem stE:Tl 35 (.i,.E) (m+1):=fun x hx hf A c W hr=>by
 obtain⟨k,s,n,l⟩:=x;have hs:=jX hx;refine aK (b:=Q .E ⟨k,s,n,l⟩) rfl ?_;rw[Q];by_cases h8:k=8
 ·subst h8
  simp only[reduceIte,Int.reduceEq,or_true,true_or,or_self,or_false,false_or];exact we8 s n A l.length c W _ _ (fun W2 _=>bI _ s n A l.length c W2) (fun W2 h=>BK Ea u.E l hs (fun y hy=>hf.kid hy) hf.len A c W2 (hr.below h).kids (hr.below h).tab)
 by_cases h9:k=9
 ·subst h9
  simp only[reduceIte,Int.reduceEq,or_true,true_or,or_self,or_false,false_or];exact we9 s n A l.length c W _ _ (fun W2 _=>bI _ s n A l.length c W2) (fun W2 h=>BK am' ((ani u).mono (Nat.le_succ m)) l hs (fun y hy=>hf.kid hy) hf.len A c W2 (hr.below h).kids (hr.below h).tab)
 by_cases h11:k=11
 ·subst h11
  simp only[reduceIte,Int.reduceEq,or_true,true_or,or_self,or_false,false_or];exact amA s n A l.length c W _ _ (fun W2 _=>bI _ s n A l.length c W2) (fun W2 h=>jP (jW.cons (f:=(62,(.i,.P))) enP ((tlP u).mono (Nat.le_succ m)) (jW.cons (f:=(61,(.no,.T))) Ru (Rv u) (jW.cons (f:=(63,(.bk,.S))) enB (tlB u) jW.nil))) wN ⟨_,s,n,l⟩ hs hf A c W2 (hr.below h))
 by_cases Rx:k=15
 ·subst Rx
  simp only[reduceIte,Int.reduceEq,or_true,true_or,or_self,or_false,false_or];exact amB s n A l.length c W _ _ _ rfl (fun W2 _=>bI _ s n A l.length c W2) (fun W2 h=>jP (jW.cons (f:=(35,(.i,.E))) Ea u.E jW.nil) wN ⟨_,s,n,l⟩ hs hf A c W2 (hr.below h))
 by_cases h16:k=16
 ·subst h16
  simp only[reduceIte,Int.reduceEq,or_true,true_or,or_self,or_false,false_or];exact amC s n A l.length c W _ _ _ _ rfl (fun W2 _=>bI _ s n A l.length c W2) (fun W2 _=>J2 s W2) (fun W2 h=>jP (jW.cons (f:=(35,(.i,.E))) Ea u.E (jW.cons (f:=(35,(.i,.E))) Ea u.E jW.nil)) wN ⟨_,s,n,l⟩ hs hf A c W2 (hr.below h))
 by_cases h17:k=17
 ·subst h17
  simp only[reduceIte,Int.reduceEq,or_true,true_or,or_self,or_false,false_or];exact amD s n A l.length c W _ _ (fun W2 _=>bI _ s n A l.length c W2) (fun W2 h=>jP (jW.cons (f:=(35,(.i,.E))) Ea u.E (jW.cons (f:=(35,(.i,.E))) Ea u.E (jW.cons (f:=(35,(.i,.E))) Ea u.E jW.nil))) wN ⟨_,s,n,l⟩ hs hf A c W2 (hr.below h))
 by_cases h18:k=18
 ·subst h18
  simp only[reduceIte,Int.reduceEq,or_true,true_or,or_self,or_false,false_or];exact amE s n A l.length c W _ _ (fun W2 _=>bI _ s n A l.length c W2) (fun W2 h=>jP (jW.cons (f:=(72,(.tg,.E))) am9 (ang u) (jW.cons (f:=(35,(.i,.E))) Ea u.E jW.nil)) wN ⟨_,s,n,l⟩ hs hf A c W2 (hr.below h))
 by_cases h19:k=19
 ·subst h19
  simp only[reduceIte,Int.reduceEq,or_true,true_or,or_self,or_false,false_or];exact amF s n A l.length c W _ _ _ (aaW l) (fun W2 _=>bI _ s n A l.length c W2) (fun W2 h=>BK Ea u.E l hs (fun y hy=>hf.kid hy) hf.len A c W2 (hr.below h).kids (hr.below h).tab)
 by_cases h20:k=20
 ·subst h20
  simp only[reduceIte,Int.reduceEq,or_true,true_or,or_self,or_false,false_or];exact amG s n A l.length c W _ _ _ _ rfl (fun W2 _=>bI _ s n A l.length c W2) (fun W2 h=>vN hf hr h) (fun W2 h=>BK Ea u.E l hs (fun y hy=>hf.kid hy) hf.len A c W2 (hr.below h).kids (hr.below h).tab)
 by_cases h21:k=21
 ·subst h21
  simp only[reduceIte,Int.reduceEq,or_true,true_or,or_self,or_false,false_or];exact amH s n A l.length c W _ _ _ _ rfl (fun W2 _=>bI _ s n A l.length c W2) (fun W2 h=>pF hf hr h) (fun W2 h=>jP (jW.cons (f:=(35,(.i,.E))) Ea u.E jW.nil) wN ⟨_,s,n,l⟩ hs hf A c W2 (hr.below h))
 by_cases h22:k=22
 ·subst h22
  simp only[reduceIte,Int.reduceEq,or_true,true_or,or_self,or_false,false_or];exact amI s n A l.length c W _ _ (fun W2 _=>bI _ s n A l.length c W2) (fun W2 h=>jP (jW.cons (f:=(35,(.i,.E))) Ea u.E (jW.cons (f:=(35,(.i,.E))) Ea u.E jW.nil)) wN ⟨_,s,n,l⟩ hs hf A c W2 (hr.below h))
 simp only[h8,h9,h11,Rx,h16,h17,h18,h19,h20,h21,h22,if_false,or_self];exact wed k s n A l.length c W _ _ _ (lH l) (by simpa using h8) (by simpa using h9) (by simpa using h11) (by simpa using Rx) (by simpa using h16) (by simpa using h17) (by simpa using h18) (by simpa using h19) (by simpa using h20) (by simpa using h21) (by simpa using h22) (fun W2 _=>bI _ s n A l.length c W2) (fun W2 h=>Rw ⟨k,s,n,l⟩ hf A c W2 (hr.below h))
theorem anj (s:ByteArray)(n:Int)(l:List Tr)(hx:SizeOf.sizeOf (⟨35,s,n,l⟩:Tr)≤m+1)(hf:Fit ⟨35,s,n,l⟩)(A:Option Addr)(c:Nat)(W:World)(hr:Rd W ⟨35,s,n,l⟩ A c):
  Calls Tryz.prog 36 #[nd ⟨35,s,n,l⟩ A c] W (aH W (lT s n&&QR [(.i,.PT),(.i,.T)] l)):=by
 have hs:=jX hx
 cases hp:lT s n with
 |false=>exact ain s n A l.length c W (fun W2 _=>aK hp (bI _ s n A l.length c W2))
 |true=>
  rw[Bool.true_and];refine am6 s n A l.length c W _ (fun W2 _=>aK hp (bI _ s n A l.length c W2)) (fun W2 a h ha=>?_);rw[vZ]
  exact yG ⟨35,s,n,l⟩ [((⟨112,some (some a)⟩:FV),wq (.i,.PT)),((⟨36,none⟩:FV),wq (.i,.T))] 39 hf.len qo (fun f hf2=>by
   simp only[List.mem_cons,List.not_mem_nil,or_false]at hf2;rcases hf2 with rfl|rfl
   ·exact anc
   ·exact enT) A c W2 (hr.below h) (fun i f y hi hy=>by
   match i with
   |0=>
    simp only[List.getElem?_cons_zero,Option.some.injEq]at hi;subst hi;intro A2 c2 W3 hW3 hr3;have h0:=tPO enT u.T (co:= .PaT) (fun k s n l=>by rw[Q]) y (Nat.le_succ_of_le (hs y (bZ hy))) (hf.kid (bZ hy)) A2 c2 W3 hr3 a (ak hW3 ha);obtain⟨k2,s2,n2,l2⟩:=y;exact aK V7 h0
   |1=>
    simp only[List.getElem?_cons_succ,List.getElem?_cons_zero,Option.some.injEq]at hi;subst hi;intro A2 c2 W3 hW3 hr3;exact u.T y (hs y (bZ hy)) (hf.kid (bZ hy)) A2 c2 W3 hr3
   |i+2=>simp at hi)
theorem stT:Tl 36 (.i,.T) (m+1):=fun x hx hf A c W hr=>by
 obtain⟨k,s,n,l⟩:=x;have hs:=jX hx;refine aK (b:=Q .T ⟨k,s,n,l⟩) rfl ?_;rw[Q];by_cases qI:k=30
 ·subst qI
  simp only[reduceIte,Int.reduceEq,or_true,true_or,or_self,or_false,false_or];exact amJ s n A l.length c W _ _ _ rfl _ (lH l) (fun W2 _=>bI _ s n A l.length c W2) (fun W2 h=>vN hf hr h)
 by_cases h31:k=31
 ·subst h31
  simp only[reduceIte,Int.reduceEq,or_true,true_or,or_self,or_false,false_or];exact amK s n A l.length c W _ _ (fun W2 _=>bI _ s n A l.length c W2) (fun W2 h=>jP (jW.cons (f:=(36,(.i,.T))) enT u.T jW.nil) wN ⟨_,s,n,l⟩ hs hf A c W2 (hr.below h))
 by_cases h32:k=32
 ·subst h32
  simp only[reduceIte,Int.reduceEq,or_true,true_or,or_self,or_false,false_or];exact amL s n A l.length c W _ _ _ (aaX l) (fun W2 _=>bI _ s n A l.length c W2) (fun W2 h=>BK am_ (anh u) l hs (fun y hy=>hf.kid hy) hf.len A c W2 (hr.below h).kids (hr.below h).tab)
 by_cases h33:k=33
 ·subst h33
  simp only[reduceIte,Int.reduceEq,or_true,true_or,or_self,or_false,false_or];exact amM s n A l.length c W _ _ _ (fun W2 _=>bI _ s n A l.length c W2) (fun W2 h=>uf l (fun y hy=>hf.kid hy) hf.len A c W2 (hr.below h).kids (hr.below h).tab) (fun W2 h=>BK ana ((aip u).mono (Nat.le_succ m)) l hs (fun y hy=>hf.kid hy) hf.len A c W2 (hr.below h).kids (hr.below h).tab)
 by_cases h35:k=35
 ·subst h35
  simp only[reduceIte,Int.reduceEq,or_true,true_or,or_self,or_false,false_or];exact anj u s n l hx hf A c W hr
 simp only[qI,h31,h32,h33,h35,if_false,or_self];exact wtd k s n A l.length c W _ (by simpa using qI) (by simpa using h31) (by simpa using h32) (by simpa using h33) (by simpa using h35) (fun W2 _=>bI _ s n A l.length c W2)
theorem stS:Tl 32 (.i,.S) (m+1):=fun x hx hf A c W hr=>by
 obtain⟨k,s,n,l⟩:=x;have hs:=jX hx;refine aK (b:=Q .S ⟨k,s,n,l⟩) rfl ?_;rw[Q];by_cases Dq:k=40
 ·subst Dq
  simp only[reduceIte,Int.reduceEq,or_true,true_or,or_self,or_false,false_or];exact amN s n A l.length c W _ _ _ _ rfl _ rfl (fun W2 _=>bI _ s n A l.length c W2) (fun W2 h=>vN hf hr h) (fun W2 h=>jP (jW.cons (f:=(61,(.no,.T))) Ru (Rv u) (jW.cons (f:=(35,(.i,.E))) Ea u.E jW.nil)) wN ⟨_,s,n,l⟩ hs hf A c W2 (hr.below h))
 by_cases lU:k=41
 ·subst lU
  simp only[reduceIte,Int.reduceEq,or_true,true_or,or_self,or_false,false_or];exact amO s n A l.length c W _ _ _ _ rfl (fun W2 _=>bI _ s n A l.length c W2) (fun W2 h=>vN hf hr h) (fun W2 h=>jP (jW.cons (f:=(62,(.i,.P))) enP ((tlP u).mono (Nat.le_succ m)) (jW.cons (f:=(61,(.no,.T))) Ru (Rv u) (jW.cons (f:=(63,(.bk,.S))) enB (tlB u) jW.nil))) wN ⟨_,s,n,l⟩ hs hf A c W2 (hr.below h))
 by_cases h47:k=47
 ·subst h47
  simp only[reduceIte,Int.reduceEq,or_true,true_or,or_self,or_false,false_or];exact amP s n A l.length c W _ _ (fun W2 _=>bI _ s n A l.length c W2) (fun W2 h=>jP (jW.cons (f:=(35,(.i,.E))) Ea u.E jW.nil) wN ⟨_,s,n,l⟩ hs hf A c W2 (hr.below h))
 by_cases h51:k=51
 ·subst h51
  simp only[reduceIte,Int.reduceEq,or_true,true_or,or_self,or_false,false_or];exact amQ s n A l.length c W _ _ (fun W2 _=>bI _ s n A l.length c W2) (fun W2 h=>jP (jW.cons (f:=(35,(.i,.E))) Ea u.E jW.nil) wN ⟨_,s,n,l⟩ hs hf A c W2 (hr.below h))
 by_cases h48:k=48
 ·subst h48
  simp only[reduceIte,Int.reduceEq,or_true,true_or,or_self,or_false,false_or];exact amR s n A l.length c W _ _ (fun W2 _=>bI _ s n A l.length c W2) (fun W2 h=>jP (jW.cons (f:=(35,(.i,.E))) Ea u.E (jW.cons (f:=(63,(.bk,.S))) enB (tlB u) (jW.cons (f:=(64,(.bn,.S))) am8 (anf u) jW.nil))) wN ⟨_,s,n,l⟩ hs hf A c W2 (hr.below h))
 by_cases h49:k=49
 ·subst h49
  simp only[reduceIte,Int.reduceEq,or_true,true_or,or_self,or_false,false_or];exact amS s n A l.length c W _ _ (fun W2 _=>bI _ s n A l.length c W2) (fun W2 h=>jP (jW.cons (f:=(35,(.i,.E))) Ea u.E (jW.cons (f:=(63,(.bk,.S))) enB (tlB u) jW.nil)) wN ⟨_,s,n,l⟩ hs hf A c W2 (hr.below h))
 by_cases h50:k=50
 ·subst h50
  simp only[reduceIte,Int.reduceEq,or_true,true_or,or_self,or_false,false_or];exact amT s n A l.length c W _ _ (fun W2 _=>bI _ s n A l.length c W2) (fun W2 h=>jP (jW.cons (f:=(65,(.no,.E))) am7 (ane u) jW.nil) wN ⟨_,s,n,l⟩ hs hf A c W2 (hr.below h))
 by_cases qJ:k=52
 ·subst qJ
  simp only[reduceIte,Int.reduceEq,or_true,true_or,or_self,or_false,false_or];exact amU s n A l.length c W _ _ (fun W2 _=>bI _ s n A l.length c W2) (fun W2 h=>BK enS u.S l hs (fun y hy=>hf.kid hy) hf.len A c W2 (hr.below h).kids (hr.below h).tab)
 simp only[Dq,lU,h47,h51,h48,h49,h50,qJ,if_false,or_self];exact wsd k s n A l.length c W _ (by simpa using Dq) (by simpa using lU) (by simpa using h47) (by simpa using h48) (by simpa using h49) (by simpa using h50) (by simpa using h51) (by simpa using qJ) (fun W2 _=>bI _ s n A l.length c W2)
theorem aaY:Up (m+1):=⟨stE u,stT u,stS u⟩
end
theorem uo:∀m,Up m
 |0=>⟨fun x hx=>o8,fun x hx=>o8,fun x hx=>o8⟩
 |m+1=>aaY (uo m)
end Go.Proofs.YtldgmneijipbjaaGreatDoor.H
