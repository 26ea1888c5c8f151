import Derived.Test.YtldgmneijipbjaaGreatDoorBS12
import Derived.Test.YtldgmneijipbjaaGreatDoorBMac
set_option linter.unusedVariables false
set_option linter.unusedSimpArgs false
set_option maxRecDepth 100000
set_option maxHeartbeats 16000000
namespace Go.Proofs.YtldgmneijipbjaaGreatDoor.H
open Go.RowKit Go.Proofs.YtldgmneijipbjaaGreatDoorW.PrintWords
open PScopeOwn
structure dA where
 name:ByteArray
 kind:Int
 pos:Int
 item:Int
 cst:Bool
structure bV where
 pos:Int
 kind:Int
 decl:Int
 name:ByteArray
 typed:Bool
structure dQ where
 name:ByteArray
 pos:Int
 kind:Int
 free:Bool
structure PS where
 aN:List dA
 given:List ByteArray
 uses:List bV
 err:Int
 bad:Int
structure En where
 fP:List (List dQ)
 this:Bool
 back:Bool
def PS.fail (st:PS)(e p:Int):PS:=if st.err=0∨p<st.bad∨(p=st.bad∧e<st.err)then {st with err:=e,bad:=p}else st
def bO (l:List dA)(s:ByteArray):Option dA:=l.find? (fun t=>decide (t.name=s))
def kP (l:List dQ)(s:ByteArray):Option dQ:=l.reverse.find? (fun t=>decide (t.name=s))
def iV (l:List (List dQ))(s:ByteArray):Option dQ:=l.reverse.findSome? (fun d=>kP d s)
def bB:ByteArray:=⟨#[100,101,102,97,117,108,116]⟩
def U2:ByteArray:=⟨#[112,97,114,115,101]⟩
def wu:ByteArray:=⟨#[112,114,105,110,116]⟩
def aiy:ByteArray:=⟨#[112,117,115,104]⟩
def aiz:ByteArray:=⟨#[114,101,97,100]⟩
def aiA:ByteArray:=⟨#[116,101,120,116]⟩
def blt:List ByteArray:=[U2,wu,aiy,aiz,aiA]
def PS.top (st:PS)(name:ByteArray)(kind pos item:Int)(free:Bool):PS:=
 if(bO st.aN name).isSome then st.fail 90 pos else {st with aN:=st.aN++[⟨name,kind,pos,item,!free⟩]}
def PS.give (st:PS)(name:ByteArray)(pos:Int):PS:=
 if jE st.given name then({st with given:=st.given++[name]}:PS).fail 90 pos else {st with given:=st.given++[name]}
def uE (t:dA):Int:=if t.kind=61 then 4 else 3
def gH (st:PS)(en:En)(s:ByteArray):Option (Int×Int×Bool):=
 match iV en.fP s with
 |some d=>some (2,d.pos,d.free)
 |none=>match(if s=bB then none else bO st.aN s)with
  |some t=>some (uE t,t.pos,!t.cst)
  |none=>if jE blt s then some (1,0,false)else none
def iW (st:PS)(s:ByteArray):Bool:=match bO st.aN s with
 |some t=>t.kind==46
 |none=>false
def PS.value (st:PS)(en:En)(s:ByteArray)(pos:Int):PS:=
 match gH st en s with
 |none=>st.fail 91 pos
 |some (k,d,_)=>if k=3∧iW st s=true then st.fail 91 pos else {st with uses:=st.uses++[⟨pos,k,d,s,false⟩]}
def PS.only (st:PS)(s:ByteArray)(pos:Int)(typed:Bool):PS:=
 match bO st.aN s with
 |none=>st.fail 91 pos
 |some t=>if s=bB∨(typed=true∧t.kind≠46∧t.kind≠42∧t.kind≠61)then st.fail 91 pos else {st with uses:=st.uses++[⟨pos,uE t,t.pos,s,typed⟩]}
def sz (x:Tr):Int:=(flat x).length
def decP (r:PS×List dQ)(x:Tr)(pos:Int)(free:Bool):PS×List dQ:=
 if(kP r.2 x.f1).isSome then(r.1.fail 90 pos,r.2)else(r.1,r.2++[⟨x.f1,pos,x.f0,free⟩])
def fB (r:PS×List dQ)(pos:Int):List Tr→PS×List dQ
 |[]=>r
 |x::l=>fB (decP r x pos true) (pos+sz x) l
def gq (r:PS×List dQ)(pos:Int):List Tr→PS×List dQ
 |[]=>r
 |x::l=>gq (if x.f0=40∨x.f0=41 then decP r x pos (x.f0==40&&x.f2==0)else r) (pos+sz x) l
def jR (s:ByteArray):Bool:=s.toList==[110,117,109,98,101,114]||(s.toList==[115,116,114,105,110,103]||(s.toList==[98,111,111,108,101,97,110]||(s.toList==[110,117,108,108]||(s.toList==[117,110,100,101,102,105,110,101,100]||s.toList==[97,110,121]))))
def fG:List Tr→List Tr
 |[]=>[]
 |p::_=>p.f3
def vG (st:PS)(en:En)(pos:Int):List Tr→PS
 |[]=>st
 |t::_=>if t.f0=6 then(match gH st en t.f1 with
  |some (_,_,free)=>if free=true then st else st.fail 92 pos
  |none=>st)else st
def nO (st:PS)(s:ByteArray)(pos:Int):List Tr→PS
 |[]=>st
 |x::l=>nO (if s.toList.isEmpty then st.only x.f1 pos false else st) s (pos+2) l
def En.fn (en:En)(sc:List dQ)(this:Bool):En:=⟨en.fP++[sc],this,true⟩
def En.bk (en:En)(sc:List dQ):En:=⟨en.fP++[sc],en.this,en.back⟩
mutual
def mo (en:En)(st:PS)(pos:Int):Tr→PS
 |⟨k,s,n,l⟩=>
  if k=6 then st.value en s pos
  else if k=20 then bK en (st.value en s pos) (pos+1) l
  else if k=7 then(if en.this=true then st else st.fail 93 pos)
  else if k=50 then bK en (if en.back=true then st else st.fail 93 pos) (pos+1) l
  else if k=18 then bK en (vG st en pos l) (pos+1) l
  else if k=11 then bK (en.fn (fB (st,[]) (pos+2) (fG l)).2 en.this) (fB (st,[]) (pos+2) (fG l)).1 (pos+1) l
  else if k=41 then bK (en.fn (fB (st,[]) (pos+2) (fG l)).2 false) (fB (st,[]) (pos+2) (fG l)).1 (pos+1) l
  else if k=42 then eZ en st (pos+1) l
  else if k=52 then bK (en.bk (gq (st,[]) (pos+1) l).2) (gq (st,[]) (pos+1) l).1 (pos+1) l
  else if k=30 then(if jR s then st else st.only s pos true)
  else if k=60 then st
  else if k=64 then nO st s (pos+1) l
  else bK en st (pos+1) l
def tq (en:En)(st:PS)(pos:Int):Tr→PS
 |⟨k,s,n,l⟩=>
  if k=43 then bK ⟨en.fP,true,false⟩ st (pos+1) l
  else bK (en.fn (fB (st,[]) (pos+2) (fG l)).2 true) (fB (st,[]) (pos+2) (fG l)).1 (pos+1) l
def bK (en:En)(st:PS)(pos:Int):List Tr→PS
 |[]=>st
 |x::l=>bK en (mo en st pos x) (pos+sz x) l
def eZ (en:En)(st:PS)(pos:Int):List Tr→PS
 |[]=>st
 |x::l=>eZ en (tq en st pos x) (pos+sz x) l
end
def vH (st:PS)(item pos:Int):List Tr→PS
 |[]=>st
 |x::l=>vH (st.top (match x.f3 with|t::_=>t.f1|[]=>⟨#[]⟩) 61 pos item false) item (pos+2) l
def lI (st:PS)(pos:Int):List Tr→PS
 |[]=>st
 |x::l=>lI (match x.f3 with
   |t::_=>if t.f0=6 then st.give t.f1 pos else if x.f1.toList=[42]then st else st.give x.f1 pos
   |[]=>st) (pos+2) l
def U3 (st:PS)(x:Tr)(pos item:Int):PS:=st.top x.f1 x.f0 pos item (x.f0==40&&x.f2==0)
def rR (st:PS)(x:Tr)(pos item:Int):PS:=
 if x.f0=40∨x.f0=41∨x.f0=42∨x.f0=46∨x.f0=66 then U3 st x pos item
 else if x.f0=60 then vH st item (pos+1) x.f3
 else if x.f0=64 then lI st (pos+1) x.f3 else st
def kD (st:PS)(x:Tr)(pos item:Int):PS:=
 if x.f0=62 then(match x.f3 with
  |t::_=>rR (st.give t.f1 pos) t (pos+1) item
  |[]=>st)
 else if x.f0=63 then(match x.f3 with
  |t::_=>if t.f0=41∨t.f0=42 then rR (st.give bB pos) t (pos+1) item else(st.give bB pos).top bB 63 pos item false
  |[]=>st)
 else rR st x pos item
def iE (st:PS)(pos:Int):Int→List Tr→PS
 |_,[]=>st
 |i,x::l=>iE (kD st x pos i) (pos+sz x) (i+1) l
def st0:PS:=⟨[],[],[],0,0⟩
def en0:En:=⟨[],false,false⟩
def fC (x:Tr):PS:=bK en0 (iE st0 1 0 x.f3) 1 x.f3
mutual
def U4:Tr→Bool
 |⟨k,s,n,l⟩=>!(k==50)&&(k==11||Tt l)
def Tt:List Tr→Bool
 |[]=>true
 |x::l=>U4 x&&Tt l
end
theorem Aq:∀l,Tt l=l.all U4
 |[]=>by rw[Tt];rfl
 |x::l=>by rw[Tt,Aq l];rfl
structure Loc (y:Tr):Prop where
 fn:y.f0=11∨y.f0=41∨y.f0=44∨y.f0=45→∃p l,y.f3=p::l∧∀q,q∈p.f3→q.f0=13
 asg:y.f0=18→∃a b,y.f3=[a,b]
 nm:y.f0=6→y.f3=[]
 nd:y.f0=6∨y.f0=20∨y.f0=30→y.f1≠bB
 cls:y.f0=42→∀q,q∈y.f3→q.f0=43∨q.f0=44∨q.f0=45
 nomem:y.f0≠42→∀q,q∈y.f3→q.f0≠43∧q.f0≠44∧q.f0≠45
 blk:y.f0=52→∀q,q∈y.f3→q.f0≠13
 imp:y.f0=60→∀q,q∈y.f3→q.f0=61∧∃t,q.f3=[t]∧t.f3=[]
 kE:y.f0=64→∀q,q∈y.f3→(∃t,q.f3=[t]∧t.f3=[])∧(y.f1.toList=[]→q.f1≠bB)
 exp:y.f0=62→∃t,y.f3=[t]∧(t.f0=40∨t.f0=41∨t.f0=42∨t.f0=46)
 dft:y.f0=63→∃t,y.f3=[t]
 fld:y.f0=43→∀q,q∈y.f3→U4 q=true
inductive bM:Tr→Prop
 |intro(x:Tr):Loc x→(x.f0≠64→∀q,q∈x.f3→bM q)→bM x
theorem bM.mk {x:Tr}(h:Loc x)(hk:∀q,q∈x.f3→bM q):bM x:= .intro x h (fun _=>hk)
theorem bM.loc {x:Tr}(h:bM x):Loc x:=by cases h;assumption
theorem bM.kid {x q:Tr}(h:bM x)(hn:x.f0≠64)(hq:q∈x.f3):bM q:=by
 cases h with
 |intro _ _ h=>exact h hn q hq
theorem oC {y:Tr}:∀{l:List Tr},y∈aM l↔∃q,q∈l∧y∈flat q
 |[]=>Oe
 |x::l=>by rw[aM,List.mem_append,oC];simp
def kdB:Co→Int→Bool
 | .E,k=>(decide (1≤k)&&decide (k≤9))||k==11||(decide (15≤k)&&decide (k≤22))
 | .T,k=>decide (30≤k)&&decide (k≤35)
 | .S,k=>k==40||k==41||(decide (47≤k)&&decide (k≤52))
 | .P,k=>k==12
 | .PT,k=>k==12
 | .Pa,k=>k==13
 | .PaT,k=>k==13
 | .Pr,k=>k==10
 | .TPr,k=>k==34
theorem RJ {k:Int}{s:ByteArray}{n:Int}(h:qH k s n=true):1≤k∧k≤7:=by
 unfold qH at h
 split at h;·omega
 split at h;·omega
 split at h;·omega
 split at h;·omega
 split at h;·omega
 cases h
theorem BP {c:Co}{x:Tr}(h:Q c x=true):kdB c x.f0=true:=by
 obtain⟨k,s,n,l⟩:=x
 cases c<;>simp only[Q,kdB]at h⊢
 ·by_cases h8:k=8;·subst h8;rfl
  by_cases h9:k=9;·subst h9;rfl
  by_cases h11:k=11;·subst h11;rfl
  by_cases Rx:k=15;·subst Rx;rfl
  by_cases h16:k=16;·subst h16;rfl
  by_cases h17:k=17;·subst h17;rfl
  by_cases h18:k=18;·subst h18;rfl
  by_cases h19:k=19;·subst h19;rfl
  by_cases h20:k=20;·subst h20;rfl
  by_cases h21:k=21;·subst h21;rfl
  by_cases h22:k=22;·subst h22;rfl
  simp only[h8,h9,h11,Rx,h16,h17,h18,h19,h20,h21,h22,if_false,Bool.and_eq_true]at h;have:=RJ h.2;simp;omega
 ·exact adk
 ·split at h;·simp;omega
  split at h;·simp;omega
  exact adk
 all_goals
  simp only[Bool.and_eq_true]at h;exact h.1
def xB (q:Tr):Prop:=gT q=true∨∃c,Q c q=true
theorem mq {q:Tr}(h:gT q=true):q.f0=14∧q.f3=[]:=by
 obtain⟨k,s,n,l⟩:=q;simp only[gT,Bool.and_eq_true,beq_iff_eq,List.isEmpty_iff]at h;exact⟨h.1,h.2.2⟩
theorem FJ {w:Wr}{c:Co}{q:Tr}(h:BH w q (Q c q)=true):gT q=true∧(w= .no∨w= .bn)∨Q c q=true:=by
 cases w<;>simp only[BH,Bool.or_eq_true,Bool.and_eq_true]at h
 ·exact .inr h
 ·rcases h with h|h
  ·exact .inl ⟨h,.inl rfl⟩
  ·exact .inr h
 ·exact .inr h.2
 ·rcases h with h|h
  ·exact .inl ⟨h,.inr rfl⟩
  ·exact .inr h.2
 ·exact .inr h.2
 ·exact .inr h.2
 ·exact .inr h.2
theorem Ar {w:Wr}{c:Co}{l:List Tr}(h:QL w c l=true){q:Tr}(hq:q∈l):gT q=true∧(w= .no∨w= .bn)∨Q c q=true:=by
 rw[yH,List.all_eq_true]at h;exact FJ (h q hq)
theorem Av:∀{ts:List (Wr×Co)} {l:List Tr},QR ts l=true→∀q,q∈l→∃t,t∈ts∧BH t.1 q (Q t.2 q)=true
 |[],[],h,q,hq=>by cases hq
 |[],_::_,h,q,hq=>by simp[QR]at h
 |_::_,[],h,q,hq=>by cases hq
 |t::ts,x::l,h,q,hq=>by
  simp only[QR,Bool.and_eq_true]at h;rcases List.mem_cons.1 hq with rfl|hq
  ·exact⟨t,qo,h.1⟩
  ·obtain⟨u,h1,h2⟩:=Av h.2 q hq
   exact⟨u,by simp[h1],h2⟩
theorem afq {w:Wr}{c:Co}{q:Tr}(h:BH w q (Q c q)=true):xB q:=(FJ h).elim (fun h=> .inl h.1) (fun h=> .inr ⟨c,h⟩)
theorem U5 {w:Wr}{c:Co}{l:List Tr}(h:QL w c l=true):∀q,q∈l→xB q:=fun q hq=>(Ar h hq).elim (fun h=> .inl h.1) (fun h=> .inr ⟨c,h⟩)
theorem uF {ts:List (Wr×Co)}{l:List Tr}(h:QR ts l=true):∀q,q∈l→xB q:=fun q hq=>by
 obtain⟨t,-,h2⟩:=Av h q hq;exact afq h2
theorem U6 {c:Co}{x:Tr}(h:Q c x=true):∀q,q∈x.f3→xB q:=by
 obtain⟨k,s,n,l⟩:=x;intro q hq;simp only at hq
 cases c<;>simp only[Q]at h<;>(repeat' split at h)<;>(try simp only[Bool.and_eq_true]at h)<;>
  first
  |exact U5 h.2 q hq
  |exact uF h.2 q hq
  |exact U5 h.2.2.2 q hq
  |exact uF h.2.2.2 q hq
  |(have e:=List.isEmpty_iff.1 h.1;rw[e]at hq;cases hq)
  |(have e:=List.isEmpty_iff.1 h.1.2;rw[e]at hq;cases hq)
  |cases h
theorem PK {s:ByteArray}(h:nH s=true):s≠bB:=by
 rintro rfl;revert h;unfold nH;rw[show jE kr bB=true from wN];simp
theorem afr {s:ByteArray}(h:MO s=true):s≠bB:=by
 rintro rfl;revert h;unfold MO;rw[show bB.toList=[100,101,102,97,117,108,116]from by rw[ByteArray.toList_eq];rfl];decide
theorem afs {p:Tr}(h:Q .P p=true):∀q,q∈p.f3→q.f0=13:=by
 obtain⟨k,s,n,l⟩:=p;simp only[Q,Bool.and_eq_true]at h;intro q hq;rcases Ar h.2.2.2 hq with⟨-,h|h⟩|h
 ·cases h
 ·cases h
 ·have:=BP h;simpa [kdB]using this
theorem FL {l:List Tr}{ts:List (Wr×Co)}(h:QR ((.i,.P)::ts) l=true):∃p l',l=p::l'∧∀q,q∈p.f3→q.f0=13:=by
 cases l with
 |nil=>simp[QR]at h
 |cons p l'=>
  simp only[QR,Bool.and_eq_true,BH]at h;exact⟨p,l',rfl,afs h.1⟩
theorem aa2 {l:List Tr}{a b:Wr×Co}(h:QR [a,b] l=true):∃x y,l=[x,y]:=by
 match l,h with
 |[],h=>simp[QR]at h
 |[_],h=>simp[QR]at h
 |[x,y],_=>exact⟨x,y,rfl⟩
 |_::_::_::_,h=>simp[QR]at h
theorem PL {l:List Tr}{a:Wr×Co}(h:QR [a] l=true):∃x,l=[x]∧BH a.1 x (Q a.2 x)=true:=by
 match l,h with
 |[],h=>simp[QR]at h
 |[x],h=>simp only[QR,Bool.and_true]at h;exact⟨x,rfl,h⟩
 |_::_::_,h=>simp[QR]at h
theorem nA {q:Tr}(h:xB q):q.f0≠42∧q.f0≠43∧q.f0≠44∧q.f0≠45:=by
 rcases h with h|⟨c,h⟩
 ·have:=(mq h).1;omega
 ·have hk:=BP h
  refine⟨?_,?_,?_,?_⟩<;>(intro e;rw[e]at hk;revert hk;cases c<;>decide)
theorem adl {c:Co}{x:Tr}(h:Q c x=true):Loc x:=by
 have hk:=BP h;have J7:=U6 h;have no:∀k:Int,x.f0=k→(∀c,kdB c k=false)→False:=fun k e hf=>by rw[e,hf c]at hk;cases hk
 obtain⟨k,s,n,l⟩:=x;simp only at hk J7 no;refine⟨?_,?_,?_,?_,?_,?_,?_,?_,?_,?_,?_,?_⟩<;>simp only
 ·rintro(rfl|rfl|rfl|rfl)
  ·cases c<;>first|(exfalso;revert hk;decide)|skip
   simp[Q]at h;exact FL h.2
  ·cases c<;>first|(exfalso;revert hk;decide)|skip
   simp[Q]at h;exact FL h.2
  ·exact(no 44 rfl (by intro c;cases c<;>decide)).elim
  ·exact(no 45 rfl (by intro c;cases c<;>decide)).elim
 ·rintro rfl
  cases c<;>first|(exfalso;revert hk;decide)|skip
  simp[Q]at h;exact aa2 h.2
 ·rintro rfl
  cases c<;>first|(exfalso;revert hk;decide)|skip
  simp[Q]at h;exact h.1
 ·rintro(rfl|rfl|rfl)
  ·cases c<;>first|(exfalso;revert hk;decide)|skip
   simp[Q,qH]at h;exact PK h.2.2
  ·cases c<;>first|(exfalso;revert hk;decide)|skip
   simp[Q]at h;exact PK h.1.2
  ·cases c<;>first|(exfalso;revert hk;decide)|skip
   simp[Q]at h;exact h.2.elim PK afr
 ·rintro rfl;exact(no 42 rfl (by intro c;cases c<;>decide)).elim
 ·intro _ q hq;exact(nA (J7 q hq)).2
 ·rintro rfl q hq
  cases c<;>first|(exfalso;revert hk;decide)|skip
  simp[Q]at h;rcases Ar h.2 hq with⟨h,-⟩|h
  ·have:=(mq h).1;omega
  ·intro e;have:=BP h;rw[e]at this;cases this
 ·rintro rfl;exact(no 60 rfl (by intro c;cases c<;>decide)).elim
 ·rintro rfl;exact(no 64 rfl (by intro c;cases c<;>decide)).elim
 ·rintro rfl;exact(no 62 rfl (by intro c;cases c<;>decide)).elim
 ·rintro rfl;exact(no 63 rfl (by intro c;cases c<;>decide)).elim
 ·rintro rfl;exact(no 43 rfl (by intro c;cases c<;>decide)).elim
theorem U7 {x:Tr}(h:gT x=true):Loc x:=by
 obtain⟨h1,h2⟩:=mq h;refine⟨?_,?_,?_,?_,?_,?_,?_,?_,?_,?_,?_,?_⟩<;>rw[h1]<;>try (intro h;omega)
 ·rw[h2];simp
theorem aa3 {x:Tr}(h:xB x):Loc x:=h.elim U7 (fun⟨c,h⟩=>adl h)
theorem aa4 (m:Nat):∀x:Tr,SizeOf.sizeOf x≤m→xB x→bM x:=by
 induction m with
 |zero=>intro x hx;obtain⟨a,b,c,d⟩:=x;simp[jh.mk.sizeOf_spec]at hx
 |succ m ih=>
  intro x hx h;refine bM.mk (aa3 h) (fun q hq=>ih q (by have:=fJ hq;omega) ?_);rcases h with h|⟨c,h⟩
  ·rw[(mq h).2]at hq;cases hq
  ·exact U6 h q hq
theorem nC {x:Tr}(h:xB x):bM x:=aa4 _ x (Nat.le_refl _) h
def nrC:Co→Bool
 | .S=>false
 | .P=>false
 | .Pa=>false
 |_=>true
theorem aft (m:Nat):∀x:Tr,SizeOf.sizeOf x≤m→∀c,nrC c=true→Q c x=true→U4 x=true:=by
 induction m with
 |zero=>intro x hx;obtain⟨a,b,c,d⟩:=x;simp[jh.mk.sizeOf_spec]at hx
 |succ m ih=>
  intro x hx c hc h;have hk:=BP h;have hl:∀q,q∈x.f3→SizeOf.sizeOf q≤m:=fun q hq=>by have:=fJ hq;omega
  have no:gT x=true→U4 x=true:=fun h=>by
   obtain⟨h1,h2⟩:=mq h;obtain⟨k,s,n,l⟩:=x;simp only at h1 h2;subst h1 h2;rfl
  have nn:∀q,gT q=true→U4 q=true:=fun q h=>by
   obtain⟨h1,h2⟩:=mq h;obtain⟨k,s,n,l⟩:=q;simp only at h1 h2;subst h1 h2;rfl
  obtain⟨k,s,n,l⟩:=x;simp only at hk hl;have h50:k≠50:=by rintro rfl;revert hk hc;cases c<;>decide
  have fl:∀{w:Wr} {c':Co},QL w c' l=true→nrC c'=true→Tt l=true:=fun {w c'} h hn=>by
   rw[Aq,List.all_eq_true];intro q hq;rcases Ar h hq with⟨h,-⟩|h
   ·exact nn q h
   ·exact ih q (hl q hq) c' hn h
  have fr:∀{ts:List (Wr×Co)},QR ts l=true→(∀t,t∈ts→nrC t.2=true)→Tt l=true:=fun {ts} h hn=>by
   rw[Aq,List.all_eq_true];intro q hq;obtain⟨t,h1,h2⟩:=Av h q hq;rcases FJ h2 with⟨h,-⟩|h
   ·exact nn q h
   ·exact ih q (hl q hq) t.2 (hn t h1) h
  have fe:l=[]→Tt l=true:=fun e=>by rw[e];rfl
  by_cases h11:k=11
  ·subst h11;simp[U4]
  unfold U4;simp only[Bool.and_eq_true,Bool.not_eq_true',beq_eq_false_iff_ne,ne_eq,Bool.or_eq_true,beq_iff_eq];refine⟨h50,.inr ?_⟩
  cases c<;>first|(cases hc;done)|skip
  all_goals
   simp only[Q]at h
   (repeat' split at h)<;>(try simp only[Bool.and_eq_true]at h)<;>
   first
   |exact fl h.2 rfl
   |exact fr h.2 wN
   |exact fr h.2 (by simp[nrC])
   |exact fl h.2.2.2 rfl
   |exact fr h.2.2.2 (by simp[nrC])
   |exact fe (List.isEmpty_iff.1 h.1)
   |exact fe (List.isEmpty_iff.1 h.1.2)
   |(exfalso;omega)
   |cases h
theorem anE {c:Co}{x:Tr}(hc:nrC c=true)(h:Q c x=true):U4 x=true:=aft _ x (Nat.le_refl _) c hc h
theorem J8:∀{l:List Tr} {t:Int},kg t l=true→∀m,m∈l→sW m=true
 |[],t,h,m,hm=>by cases hm
 |y::l,t,h,m,hm=>by
  simp only[kg,Bool.and_eq_true]at h;rcases List.mem_cons.1 hm with rfl|hm
  ·have h1:=h.1
   unfold BL at h1;simp only[Bool.and_eq_true]at h1;exact h1.2.2.2.1
  ·exact J8 h.2 m hm
theorem aa5 {m:Tr}(h:sW m=true):(m.f0=43∨m.f0=44∨m.f0=45)∧bM m:=by
 obtain⟨k,s,n,l⟩:=m;unfold sW at h;simp only at h⊢
 split at h
 ·rename_i e
  subst e;refine⟨.inl rfl,bM.mk ?_ (fun q hq=>nC (uF h q hq))⟩;refine⟨?_,?_,?_,?_,?_,?_,?_,?_,?_,?_,?_,?_⟩<;>simp only<;>try (intro h;omega)
  ·intro _ q hq;exact(nA (uF h q hq)).2
  ·intro _ q hq
   obtain⟨t,h1,h2⟩:=Av h q hq;rcases FJ h2 with⟨h3,-⟩|h3
   ·obtain⟨e1,e2⟩:=mq h3
    obtain⟨k,s,n,l⟩:=q;simp only at e1 e2;subst e1 e2;rfl
   ·refine anE ?_ h3
    simp only[List.mem_cons,List.not_mem_nil,or_false]at h1;rcases h1 with rfl|rfl<;>rfl
 ·split at h
  ·rename_i e
   subst e;simp only[Bool.and_eq_true]at h;refine⟨.inr (.inl rfl),bM.mk ?_ (fun q hq=>nC (uF h.2 q hq))⟩;refine⟨?_,?_,?_,?_,?_,?_,?_,?_,?_,?_,?_,?_⟩<;>simp only<;>try (intro h;omega)
   ·intro _;exact FL h.2
   ·intro _ q hq;exact(nA (uF h.2 q hq)).2
  ·split at h
   ·rename_i e
    subst e;refine⟨.inr (.inr rfl),bM.mk ?_ (fun q hq=>nC (uF h q hq))⟩;refine⟨?_,?_,?_,?_,?_,?_,?_,?_,?_,?_,?_,?_⟩<;>simp only<;>try (intro h;omega)
    ·intro _;exact FL h
    ·intro _ q hq;exact(nA (uF h q hq)).2
   ·cases h
theorem Ee {x:Tr}(h:l8 x=true):x.f0=42∧bM x:=by
 obtain⟨k,s,n,l⟩:=x;unfold l8 at h;simp only[Bool.and_eq_true,beq_iff_eq]at h⊢;obtain⟨⟨rfl,-,-⟩,hm,-⟩:=h;have hq:=fun q (hq:q∈l)=>aa5 (J8 hm q hq);refine⟨rfl,bM.mk ?_ (fun q h=>(hq q h).2)⟩;refine⟨?_,?_,?_,?_,?_,?_,?_,?_,?_,?_,?_,?_⟩<;>simp only<;>try (intro h;omega)
 intro _ q h;exact(hq q h).1
theorem BR {l:List Tr}(h:QR [(.nm,.E)] l=true):∃t,l=[t]∧t.f0=6∧t.f3=[]∧Q .E t=true:=by
 obtain⟨t,e,h1⟩:=PL h;simp only[BH,Bool.and_eq_true,beq_iff_eq]at h1;exact⟨t,e,h1.1,(adl h1.2).nm h1.1,h1.2⟩
theorem J9:∀{n:Int} {len:Nat} {fs:ByteArray} {l:List Tr} {i:Nat},nR n len fs i l=true→∀q,q∈l→q.f0=61∧QR [(.nm,.E)] q.f3=true
 |n,len,fs,[],i,h,q,hq=>by cases hq
 |n,len,fs,y::l,i,h,q,hq=>by
  simp only[nR,Bool.and_eq_true]at h;rcases List.mem_cons.1 hq with rfl|hq
  ·have h1:=h.1
   unfold Tp at h1;simp only[Bool.and_eq_true,beq_iff_eq]at h1;exact⟨h1.1.1,h1.1.2.2⟩
  ·exact J9 h.2 q hq
theorem xC {x t:Tr}(h:x.f3=[t])(hk:x.f0=61∨x.f0=65∨x.f0=67∨x.f0=46∨x.f0=63)(ht:t.f0≠43∧t.f0≠44∧t.f0≠45):Loc x:=by
 refine⟨?_,?_,?_,?_,?_,?_,?_,?_,?_,?_,?_,?_⟩<;>(try (intro h;omega))
 ·intro _ q hq;rw[h]at hq;simp only[List.mem_singleton]at hq;subst hq;exact ht
 ·intro _;exact⟨t,h⟩
theorem bM.one {x t:Tr}(h:x.f3=[t])(hx:Loc x)(ht:bM t):bM x:=bM.mk hx (fun q hq=>by rw[h]at hq;simp only[List.mem_singleton]at hq;subst hq;exact ht)
theorem U8 {t:Tr}(h:Q .E t=true):bM t:=nC (.inr ⟨_,h⟩)
theorem aa6 {x:Tr}(h:z_ x=true):x.f0=60∧bM x:=by
 obtain⟨k,s,n,l⟩:=x;unfold z_ at h;simp only[Bool.and_eq_true,beq_iff_eq]at h⊢;obtain⟨⟨rfl,-⟩,hm⟩:=h;have hq:=fun q (hq:q∈l)=>J9 hm q hq;refine⟨rfl,bM.mk ?_ (fun q h=>?_)⟩
 ·refine⟨?_,?_,?_,?_,?_,?_,?_,?_,?_,?_,?_,?_⟩<;>simp only<;>try (intro h;omega)
  ·intro _ q h;have:=(hq q h).1;omega
  ·intro _ q h
   obtain⟨t,e,-,h3,-⟩:=BR (hq q h).2;exact⟨(hq q h).1,t,e,h3⟩
 ·obtain⟨t,e,h2,h3,h4⟩:=BR (hq q h).2
  exact bM.one e (xC e (.inl (hq q h).1) aG) (U8 h4)
theorem afu {ys:ByteArray}{l:List Tr}(h:toB ys l=true):∃t,l=[t]∧t.f3=[]∧(t.f0=14∨t.f0=6):=by
 match l,h with
 |[],h=>cases h
 |[t],h=>
  simp only[toB,UW,Bool.or_eq_true,Bool.and_eq_true,beq_iff_eq,List.isEmpty_iff]at h;rcases h with h|h
  ·exact⟨t,rfl,h.2.2.1,.inr h.1⟩
  ·exact⟨t,rfl,(mq h).2,.inl (mq h).1⟩
 |_::_::_,h=>cases h
theorem U9 {x:Tr}(h:uD x=true):x.f0=64∧bM x:=by
 obtain⟨k,s,n,l⟩:=x;unfold uD at h;simp only[Bool.and_eq_true,beq_iff_eq,List.all_eq_true]at h⊢;obtain⟨⟨rfl,-⟩,hm⟩:=h;refine⟨rfl,bM.intro _ ?_ (fun h=>absurd rfl h)⟩;have hq:=fun q (hq:q∈l)=>hm q hq;refine⟨?_,?_,?_,?_,?_,?_,?_,?_,?_,?_,?_,?_⟩<;>simp only<;>try (intro h;omega)
 ·intro _ q h
  have h1:=hq q h;unfold okF at h1;simp only[Bool.and_eq_true,beq_iff_eq]at h1;omega
 ·intro _ q h
  have h1:=hq q h;unfold okF at h1;simp only[Bool.and_eq_true,beq_iff_eq]at h1;obtain⟨t,e,h3,-⟩:=afu h1.1.2.2;refine⟨⟨t,e,h3⟩,fun es=>?_⟩;have h2:=h1.2;rw[es]at h2
  split at h2
  ·simp at h2
  ·simp at h2
   exact PK h2.2
theorem aa7 {x:Tr}(h:yN x=true):x.f0=67∧bM x:=by
 unfold yN at h;simp only[Bool.and_eq_true,beq_iff_eq]at h;obtain⟨t,e,h2,h3,h4⟩:=BR h.2.2.2;exact⟨h.1,bM.one e (xC e aG aG) (U8 h4)⟩
theorem RN {x:Tr}(h:oN x=true):x.f0=66∧bM x:=by
 unfold oN at h;simp only[Bool.and_eq_true,beq_iff_eq,List.all_eq_true]at h;have hq:=fun q (hq:q∈x.f3)=>aa7 (h.2.2.2 q hq);refine⟨h.1,bM.mk ?_ (fun q h=>(hq q h).2)⟩;refine⟨?_,?_,?_,?_,?_,?_,?_,?_,?_,?_,?_,?_⟩<;>(try (intro h;omega));intro _ q h;have:=(hq q h).1;omega
theorem yP {x:Tr}(h:oO x=true):bM x∧(x.f0≠43∧x.f0≠44∧x.f0≠45):=by
 unfold oO at h
 split at h
 ·have h:=Ee h;exact⟨h.2,aG⟩
 split at h
 ·rename_i e
  simp only[Bool.and_eq_true]at h;obtain⟨t,e2,h2⟩:=PL h.2;simp only[BH]at h2;have ht:xB t:= .inr ⟨_,h2⟩;exact⟨bM.one e2 (xC e2 aG (nA ht).2) (nC ht),aG⟩
 split at h
 ·have h:=aa6 h;exact⟨h.2,aG⟩
 split at h
 ·have h:=U9 h;exact⟨h.2,aG⟩
 ·exact⟨nC (.inr ⟨_,h⟩),(nA (.inr ⟨_,h⟩)).2⟩
theorem MH {P:Tr→Bool}{l:List Tr}(h:yO P l=true):∃t,l=[t]∧P t=true:=by
 match l,h with
 |[],h=>simp[yO,rO]at h
 |[t],h=>simp[yO,rO]at h;exact⟨t,rfl,h⟩
 |_::_::_,h=>simp[yO,rO]at h
theorem U_ {x:Tr}(h:iP x=true):bM x∧(x.f0≠43∧x.f0≠44∧x.f0≠45):=by
 unfold iP at h
 split at h
 ·rename_i e
  simp only[Bool.and_eq_true]at h;obtain⟨t,e2,h2⟩:=MH h.2;unfold BN at h2;simp only[Bool.and_eq_true,Bool.or_eq_true,beq_iff_eq]at h2;have ht:=yP h2.2;refine⟨bM.one e2 ?_ ht.1,aG⟩;refine⟨?_,?_,?_,?_,?_,?_,?_,?_,?_,?_,?_,?_⟩<;>(try (intro h;omega))
  ·intro _ q hq;rw[e2]at hq;simp only[List.mem_singleton]at hq;subst hq;exact ht.2
  ·intro _;exact⟨t,e2,h2.1⟩
 split at h
 ·rename_i e
  simp only[Bool.and_eq_true]at h;obtain⟨t,e2,h2⟩:=MH h.2
  have ht:bM t∧(t.f0≠43∧t.f0≠44∧t.f0≠45):=by
   unfold BO at h2;simp only[Bool.and_eq_true,Bool.or_eq_true,beq_iff_eq]at h2;rcases h2 with h2|h2
   ·exact⟨nC (.inr ⟨_,h2⟩),(nA (.inr ⟨_,h2⟩)).2⟩
   ·exact yP h2.2
  exact⟨bM.one e2 (xC e2 aG ht.2) ht.1,aG⟩
 ·exact yP h
theorem afv {x:Tr}(h:foB x=true):bM x∧(x.f0≠43∧x.f0≠44∧x.f0≠45):=by
 unfold foB at h;simp only[Bool.or_eq_true]at h;rcases h with h|h|h
 ·exact⟨nC (.inr ⟨_,h⟩),(nA (.inr ⟨_,h⟩)).2⟩
 ·have h:=Ee h;exact⟨h.2,aG⟩
 ·have h:=RN h;exact⟨h.2,aG⟩
theorem xD {x:Tr}(h:eT x=5∨eT x=6):(x.f0=68∨x.f0=69)∧∀q,q∈x.f3→bM q∧(q.f0≠43∧q.f0≠44∧q.f0≠45):=by
 unfold eT at h
 split at h
 ·rename_i e
  split at h
  ·rename_i h2
   simp only[Bool.and_eq_true,List.all_eq_true]at h2;exact⟨.inl e,fun q hq=>U_ (h2.2.1 q hq)⟩
  ·omega
 split at h
 ·rename_i e
  split at h
  ·rename_i h2
   simp only[Bool.and_eq_true,List.all_eq_true]at h2;exact⟨.inr e,fun q hq=>afv (h2.2 q hq)⟩
  ·omega
 split at h;·omega
 split at h;·omega
 split at h;·omega
 split at h<;>omega
end Go.Proofs.YtldgmneijipbjaaGreatDoor.H
