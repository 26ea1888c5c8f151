import Derived.Test.YtldgmneijipbjaaGreatDoorBY1
import Derived.Test.YtldgmneijipbjaaGreatDoorBG1
import Derived.Test.YtldgmneijipbjaaGreatDoorBMac
set_option linter.unusedVariables false
set_option linter.unusedSimpArgs false
set_option maxRecDepth 100000
set_option maxHeartbeats 16000000
namespace Go.Proofs.YtldgmneijipbjaaGreatDoor.H
open Go.RowKit Go.Proofs.YtldgmneijipbjaaGreatDoorW.PrintWords
open PScopeOwn
structure Gr (n:Nat)(s t:PS):Prop where
 uses:∃us,t.uses=s.uses++us∧us.length≤n
 aN:t.aN=s.aN
 given:t.given=s.given
 err:s.err≠0→t.err≠0
section
variable {s t u:PS} {n k:Nat}
theorem Gr.refl (s:PS):Gr 0 s s:=⟨⟨[],qo,Nat.le_refl _⟩,rfl,rfl,id⟩
theorem Gr.mono (h:Gr n s t)(hn:n≤k):Gr k s t:=by
 obtain⟨us,h1,h2⟩:=h.uses;exact⟨⟨us,h1,Nat.le_trans h2 hn⟩,h.aN,h.given,h.err⟩
theorem Gr.trans (h:Gr n s t)(h':Gr k t u):Gr (n+k) s u:=by
 obtain⟨us,h1,h2⟩:=h.uses;obtain⟨vs,h3,h4⟩:=h'.uses;exact⟨⟨us++vs,by rw[h3,h1,List.append_assoc],by rw[List.length_append];omega⟩,h'.aN.trans h.aN,h'.given.trans h.given,fun e=>h'.err (h.err e)⟩
theorem Gr.fail (s:PS)(e p:Int)(he:e≠0):Gr 0 s (s.fail e p):=by
 unfold PS.fail
 split
 ·exact⟨⟨[],qo,Nat.le_refl _⟩,rfl,rfl,fun _=>he⟩
 ·exact Gr.refl s
theorem Gr.use (s:PS)(v:bV):Gr 1 s {s with uses:=s.uses++[v]}:=⟨⟨[v],rfl,Nat.le_refl _⟩,rfl,rfl,id⟩
theorem Gr.zero (h:Gr 0 s t):t.uses=s.uses:=by
 obtain⟨us,h1,h2⟩:=h.uses;have e:us=[]:=List.length_eq_zero_iff.1 aG;rw[e]at h1;simpa using h1
theorem Gr.len (h:Gr n s t):t.uses.length≤s.uses.length+n:=by
 obtain⟨us,h1,h2⟩:=h.uses;rw[h1,List.length_append];omega
end
theorem xE (st:PS)(en:En)(s:ByteArray)(pos:Int):Gr 1 st (st.value en s pos):=by
 unfold PS.value;exact adn
theorem PN (st:PS)(s:ByteArray)(pos:Int)(typed:Bool):Gr 1 st (st.only s pos typed):=by
 unfold PS.only;exact adn
theorem Va (r:PS×List dQ)(x:Tr)(pos:Int)(free:Bool):Gr 0 r.1 (decP r x pos free).1:=by
 unfold decP
 split
 ·exact Gr.fail _ _ _ wN
 ·exact Gr.refl _
theorem mW:∀(l:List Tr) (r:PS×List dQ) (pos:Int),Gr 0 r.1 (fB r pos l).1
 |[],r,pos=>Gr.refl _
 |x::l,r,pos=>(Va r x pos true).trans (mW l _ _)
theorem uG:∀(l:List Tr) (r:PS×List dQ) (pos:Int),Gr 0 r.1 (gq r pos l).1
 |[],r,pos=>Gr.refl _
 |x::l,r,pos=>by
  rw[gq]
  split
  ·exact(Va r x pos _).trans (uG l _ _)
  ·exact uG l _ _
theorem MZ (st:PS)(en:En)(pos:Int)(l:List Tr):Gr 0 st (vG st en pos l):=by
 unfold vG
 split
 ·exact Gr.refl _
 ·split
  ·split
   ·split
    ·exact Gr.refl _
    ·exact Gr.fail _ _ _ wN
   ·exact Gr.refl _
  ·exact Gr.refl _
theorem jY (l:List Tr):l.length≤(aM l).length:=by
 induction l with
 |nil=>simp[aM]
 |cons x l ih=>rw[aM,List.length_append,List.length_cons];have:=oM x;omega
theorem FN:∀(l:List Tr) (st:PS) (s:ByteArray) (pos:Int),Gr l.length st (nO st s pos l)
 |[],st,s,pos=>Gr.refl _
 |x::l,st,s,pos=>by
  rw[nO,List.length_cons,Nat.add_comm];refine Gr.trans ?_ (FN l _ _ _)
  split
  ·exact PN _ _ _ _
  ·exact(Gr.refl _).mono aG
mutual
theorem aiB:∀(x:Tr) (en:En) (st:PS) (pos:Int),Gr (flat x).length st (mo en st pos x)
 |⟨k,s,n,l⟩,en,st,pos=>by
  rw[flat,List.length_cons,mo];have hk:=fun en' st'=>iX l en' st' (pos+1);by_cases h6:k=6
  ·rw[if_pos h6];exact(xE _ _ _ _).mono aG
  rw[if_neg h6];by_cases h20:k=20
  ·rw[if_pos h20];exact(Gr.trans (xE _ _ _ _) (hk _ _)).mono aG
  rw[if_neg h20];by_cases h7:k=7
  ·rw[if_pos h7]
   by_cases ht:en.this=true
   ·rw[if_pos ht];exact(Gr.refl _).mono aG
   ·rw[if_neg ht];exact(Gr.fail _ _ _ wN).mono aG
  rw[if_neg h7];by_cases h50:k=50
  ·rw[if_pos h50]
   refine(Gr.trans (n:=0) ?_ (hk _ _)).mono aG;by_cases ht:en.back=true
   ·rw[if_pos ht];exact Gr.refl _
   ·rw[if_neg ht];exact Gr.fail _ _ _ wN
  rw[if_neg h50];by_cases h18:k=18
  ·rw[if_pos h18];exact(Gr.trans (MZ _ _ _ _) (hk _ _)).mono aG
  rw[if_neg h18];by_cases h11:k=11
  ·rw[if_pos h11];exact(Gr.trans (mW _ (st,[]) _) (hk _ _)).mono aG
  rw[if_neg h11];by_cases lU:k=41
  ·rw[if_pos lU];exact(Gr.trans (mW _ (st,[]) _) (hk _ _)).mono aG
  rw[if_neg lU];by_cases lV:k=42
  ·rw[if_pos lV];exact(Aw l en st (pos+1)).mono aG
  rw[if_neg lV];by_cases qJ:k=52
  ·rw[if_pos qJ];exact(Gr.trans (uG _ (st,[]) _) (hk _ _)).mono aG
  rw[if_neg qJ];by_cases qI:k=30
  ·rw[if_pos qI]
   by_cases ht:jR s=true
   ·rw[if_pos ht];exact(Gr.refl _).mono aG
   ·rw[if_neg ht];exact(PN _ _ _ _).mono aG
  rw[if_neg qI];by_cases mh:k=60
  ·rw[if_pos mh];exact(Gr.refl _).mono aG
  rw[if_neg mh];by_cases h64:k=64
  ·rw[if_pos h64];exact(FN _ _ _ _).mono (by have:=jY l;omega)
  ·rw[if_neg h64];exact(hk _ _).mono aG
theorem afw:∀(x:Tr) (en:En) (st:PS) (pos:Int),Gr (flat x).length st (tq en st pos x)
 |⟨k,s,n,l⟩,en,st,pos=>by
  rw[flat,List.length_cons,tq];have hk:=fun en' st'=>iX l en' st' (pos+1)
  split
  ·exact(hk _ _).mono aG
  ·exact(Gr.trans (mW _ (st,[]) _) (hk _ _)).mono aG
theorem iX:∀(l:List Tr) (en:En) (st:PS) (pos:Int),Gr (aM l).length st (bK en st pos l)
 |[],en,st,pos=>by rw[bK,aM];exact Gr.refl _
 |x::l,en,st,pos=>by
  rw[bK,aM,List.length_append];exact Gr.trans (aiB x en st pos) (iX l _ _ _)
theorem Aw:∀(l:List Tr) (en:En) (st:PS) (pos:Int),Gr (aM l).length st (eZ en st pos l)
 |[],en,st,pos=>by rw[eZ,aM];exact Gr.refl _
 |x::l,en,st,pos=>by
  rw[eZ,aM,List.length_append];exact Gr.trans (afw x en st pos) (Aw l _ _ _)
end
theorem gU (l:List Tr)(y:Tr):((aM (l++[y])).length:Int)=(aM l).length+sz y:=by
 rw[nX,List.length_append];simp[aM,sz]
theorem lJ (y:Tr):∀(l:List Tr) (en:En) (st:PS) (pos:Int),bK en st pos (l++[y])=mo en (bK en st pos l) (pos+(aM l).length) y
 |[],en,st,pos=>by simp[bK,aM]
 |x::l,en,st,pos=>by
  rw[List.cons_append,bK,lJ y l,bK,aM,List.length_append]
  congr 1
  unfold sz;omega
theorem Ef (y:Tr):∀(l:List Tr) (en:En) (st:PS) (pos:Int),eZ en st pos (l++[y])=tq en (eZ en st pos l) (pos+(aM l).length) y
 |[],en,st,pos=>by simp[eZ,aM]
 |x::l,en,st,pos=>by
  rw[List.cons_append,eZ,Ef y l,eZ,aM,List.length_append]
  congr 1
  unfold sz;omega
theorem J_ (y:Tr):∀(l:List Tr) (r:PS×List dQ) (pos:Int),fB r pos (l++[y])=decP (fB r pos l) y (pos+(aM l).length) true
 |[],r,pos=>by simp[fB,aM]
 |x::l,r,pos=>by
  rw[List.cons_append,fB,J_ y l,fB,aM,List.length_append]
  congr 1
  unfold sz;omega
theorem xG (y:Tr):∀(l:List Tr) (r:PS×List dQ) (pos:Int),gq r pos (l++[y])=if y.f0=40∨y.f0=41 then decP (gq r pos l) y (pos+(aM l).length) (y.f0==40&&y.f2==0)else gq r pos l
 |[],r,pos=>by simp[gq,aM]
 |x::l,r,pos=>by
  rw[List.cons_append,gq,xG y l,gq,aM,List.length_append];have e:pos+sz x+((aM l).length:Int)=pos+(((flat x).length+(aM l).length:Nat):Int):=Cx;rw[e]
theorem BS (y:Tr)(s:ByteArray):∀(l:List Tr) (st:PS) (pos:Int),nO st s pos (l++[y])=if s.toList.isEmpty then(nO st s pos l).only y.f1 (pos+2*l.length) false else nO st s pos l
 |[],st,pos=>by simp[nO]
 |x::l,st,pos=>by
  rw[List.cons_append,nO,BS y s l,nO,List.length_cons];have e:pos+2+2*(l.length:Int)=pos+2*((l.length+1:Nat):Int):=aG;rw[e]
theorem PO (r:PS×List dQ)(x:Tr)(pos:Int)(free:Bool):(decP r x pos free).2.length≤r.2.length+1:=by
 unfold decP
 split
 ·exact Nat.le_succ _
 ·simp
theorem PU:∀(l:List Tr) (r:PS×List dQ) (pos:Int),(fB r pos l).2.length≤r.2.length+l.length
 |[],r,pos=>by simp[fB]
 |x::l,r,pos=>by
  rw[fB,List.length_cons];have:=PU l (decP r x pos true) (pos+sz x);have:=PO r x pos true;omega
theorem Ay:∀(l:List Tr) (r:PS×List dQ) (pos:Int),(gq r pos l).2.length≤r.2.length+l.length
 |[],r,pos=>by simp[gq]
 |x::l,r,pos=>by
  rw[gq,List.length_cons]
  split
  ·have:=Ay l (decP r x pos (x.f0==40&&x.f2==0)) (pos+sz x)
   have:=PO r x pos (x.f0==40&&x.f2==0);omega
  ·have:=Ay l r (pos+sz x)
   omega
structure kF where
 name:ByteArray
 pos:Int
 free:Bool
structure RS where
 aN:List dA
 uses:List bV
 aT:List kF
 this:Bool
 ins:Bool
 PV:Int
 err:Int
 ex:List ByteArray
def RS.fail (s:RS)(p e:Int):RS:=if s.err=0∨p<s.PV then {s with PV:=p,err:=e}else s
def RS.FP (s:RS)(name:ByteArray)(kind p item:Int)(free:Bool):RS:=
 if(bO s.aN name).isSome then s.fail p 90 else {s with aN:=s.aN++[⟨name,kind,p,item,!free⟩]}
def RS.give (s:RS)(name:ByteArray)(p:Int):RS:=
 if jE s.ex name then {s.fail p 90 with ex:=s.ex++[name]}else {s with ex:=s.ex++[name]}
def RS.je (s:RS)(name:ByteArray)(p:Int)(b:Bool):RS×Bool:=
 match bO s.aN name with
 |some t=>({(if b=true∧t.kind=46 then s.fail p 91 else s)with uses:=s.uses++[⟨p,uE t,t.pos,name,false⟩]},!t.cst)
 |none=>if(b&&jE blt name)=true then({s with uses:=s.uses++[⟨p,1,0,name,false⟩]},false)else(s.fail p 91,true)
def kQ (l:List kF)(name:ByteArray):Option kF:=l.reverse.find? (fun d=>decide (d.name=name))
def RS.use (s:RS)(name:ByteArray)(p:Int):RS×Bool:=
 match kQ s.aT name with
 |some d=>({s with uses:=s.uses++[⟨p,2,d.pos,name,false⟩]},d.free)
 |none=>s.je name p true
def RS.kW (s:RS)(name:ByteArray)(p:Int):RS:=
 match bO s.aN name with
 |none=>s.fail p 91
 |some t=>if t.kind≠46∧t.kind≠42∧t.kind≠61 then s.fail p 91 else {s with uses:=s.uses++[⟨p,uE t,t.pos,name,true⟩]}
def yQ (l:List kF)(name:ByteArray):Bool:=l.any (fun d=>decide (d.name=name))
def holds (x:Tr):Bool:=x.f0==40||x.f0==41||x.f0==13
def mD (s:RS)(x:Tr)(p:Int)(from_:Nat):RS:=
 if holds x=true then
  (if yQ (s.aT.drop from_) x.f1=true then s.fail p 90 else {s with aT:=s.aT++[⟨x.f1,p,x.f0==13||(x.f0==40&&x.f2==0)⟩]})
 else s
def dS (from_:Nat)(s:RS)(p:Int):List Tr→RS
 |[]=>s
 |x::l=>dS from_ (mD s x p from_) (p+sz x) l
def RS.enter (s:RS)(this:Bool):RS:={s with this:=this,ins:=true}
def RS.leave (s t:RS):RS:={t with aT:=t.aT.take s.aT.length,this:=s.this,ins:=s.ins}
def tu (s:RS)(n:ByteArray)(p:Int):List Tr→RS
 |[]=>s
 |x::l=>tu (if n.toList.isEmpty then(s.je x.f1 p false).1 else s) n (p+sz x) l
mutual
def kR (s:RS)(pos:Int):Tr→RS
 |⟨k,n,v,l⟩=>
  if k=6 then(s.use n pos).1
  else if k=20 then b_ (s.use n pos).1 (pos+1) l
  else if k=30 then(if jR n then s else s.kW n pos)
  else if k=18 then wB s pos l
  else if k=7 then(if s.this=true then s else s.fail pos 93)
  else if k=50 then b_ (if s.ins=true then s else s.fail pos 93) (pos+1) l
  else if k=11 then s.leave (b_ (dS s.aT.length (s.enter s.this) (pos+2) (fG l)) (pos+1) l)
  else if k=41 then s.leave (b_ (dS s.aT.length (s.enter false) (pos+2) (fG l)) (pos+1) l)
  else if k=44∨k=45 then s.leave (b_ (dS s.aT.length (s.enter true) (pos+2) (fG l)) (pos+1) l)
  else if k=43 then {b_ {s with this:=true} (pos+1) l with this:=s.this}
  else if k=52 then(let t:=b_ (dS s.aT.length s (pos+1) l) (pos+1) l;{t with aT:=t.aT.take s.aT.length})
  else if k=60 then s
  else if k=64 then tu s n (pos+1) l
  else b_ s (pos+1) l
def wB (s:RS)(pos:Int):List Tr→RS
 |a::b::[]=>if a.f0=6 then kR (if(s.use a.f1 (pos+1)).2=true then(s.use a.f1 (pos+1)).1 else(s.use a.f1 (pos+1)).1.fail pos 92) (pos+2) b else kR (kR s (pos+1) a) (pos+1+sz a) b
 |[]=>s
 |a::[]=>kR s (pos+1) a
 |a::b::c::l=>b_ (kR (kR (kR s (pos+1) a) (pos+1+sz a) b) (pos+1+sz a+sz b) c) (pos+1+sz a+sz b+sz c) l
def b_ (s:RS)(pos:Int):List Tr→RS
 |[]=>s
 |x::l=>b_ (kR s pos x) (pos+sz x) l
end
def yR (s:RS)(item pos:Int):List Tr→RS
 |[]=>s
 |x::l=>yR (s.FP (match x.f3 with|t::_=>t.f1|[]=>⟨#[]⟩) 61 pos item false) item (pos+sz x) l
def nS (s:RS)(pos:Int):List Tr→RS
 |[]=>s
 |x::l=>nS (match x.f3 with
   |t::_=>if t.f0=6 then s.give t.f1 pos else if x.f1.toList=[42]then s else s.give x.f1 pos
   |[]=>s) (pos+sz x) l
def sH (s:RS)(x:Tr)(pos item:Int):RS:=
 if x.f0=40∨x.f0=41∨x.f0=42∨x.f0=46∨x.f0=66 then s.FP x.f1 x.f0 pos item (x.f0==40&&x.f2==0)
 else if x.f0=60 then yR s item (pos+1) x.f3
 else if x.f0=64 then nS s (pos+1) x.f3 else s
def gB (s:RS)(x:Tr)(pos item:Int):RS:=
 if x.f0=62 then(match x.f3 with
  |t::_=>sH (s.give t.f1 pos) t (pos+1) item
  |[]=>s)
 else if x.f0=63 then(match x.f3 with
  |t::_=>if t.f0=41∨t.f0=42 then sH (s.give bB pos) t (pos+1) item else(s.give bB pos).FP bB 63 pos item false
  |[]=>s)
 else sH s x pos item
def mE (s:RS)(pos:Int):Int→List Tr→RS
 |_,[]=>s
 |i,x::l=>mE (gB s x pos i) (pos+sz x) (i+1) l
def Me:RS:=⟨[],[],[],false,false,0,0,[]⟩
def mK (x:Tr):RS:=b_ (mE Me 1 0 x.f3) 1 x.f3
structure Rg (n:Nat)(s t:RS):Prop where
 uses:t.uses.length≤s.uses.length+n
 aN:t.aN=s.aN
 ex:t.ex=s.ex
 aT:t.aT=s.aT
 this:t.this=s.this
 ins:t.ins=s.ins
 err:s.err≠0→t.err≠0
section
variable {s t u:RS} {n k:Nat}
theorem Rg.refl (s:RS):Rg 0 s s:=⟨Nat.le_refl _,rfl,rfl,rfl,rfl,rfl,id⟩
theorem Rg.mono (h:Rg n s t)(hn:n≤k):Rg k s t:=⟨by have:=h.uses;omega,h.aN,h.ex,h.aT,h.this,h.ins,h.err⟩
theorem Rg.trans (h:Rg n s t)(h':Rg k t u):Rg (n+k) s u:=⟨by have:=h.uses;have:=h'.uses;omega,h'.aN.trans h.aN,h'.ex.trans h.ex,h'.aT.trans h.aT,h'.this.trans h.this,h'.ins.trans h.ins,fun e=>h'.err (h.err e)⟩
theorem Rg.fail (s:RS)(p e:Int)(he:e≠0):Rg 0 s (s.fail p e):=by
 unfold RS.fail
 split
 ·exact⟨Nat.le_refl _,rfl,rfl,rfl,rfl,rfl,fun _=>he⟩
 ·exact Rg.refl s
theorem Rg.app (s:RS)(v:bV):Rg 1 s {s with uses:=s.uses++[v]}:=⟨qo,rfl,rfl,rfl,rfl,rfl,id⟩
end
theorem rT (s:RS)(p e:Int):(s.fail p e).uses=s.uses:=by unfold RS.fail;split<;>rfl
theorem Eh (s:RS)(n:ByteArray)(p:Int)(b:Bool):Rg 1 s (s.je n p b).1:=by
 unfold RS.je
 split
 ·rename_i t _
  by_cases h:b=true∧t.kind=46
  ·simp only[if_pos h]
   have h1:=Rg.fail s p 91 wN;have h2:=Rg.app (s.fail p 91) ⟨p,uE t,t.pos,n,false⟩;rw[rT]at h2;exact(h1.trans h2).mono aG
  ·simp only[if_neg h]
   exact Rg.app s _
 ·split
  ·exact Rg.app s _
  ·exact(Rg.fail s p 91 wN).mono aG
theorem rU (s:RS)(n:ByteArray)(p:Int):Rg 1 s (s.use n p).1:=by
 unfold RS.use
 split
 ·exact Rg.app s _
 ·exact Eh _ _ _ _
theorem M0 (s:RS)(n:ByteArray)(p:Int):Rg 1 s (s.kW n p):=by
 unfold RS.kW
 split
 ·exact(Rg.fail s p 91 wN).mono aG
 ·split
  ·exact(Rg.fail s p 91 wN).mono aG
  ·exact Rg.app s _
theorem M5:∀(l:List Tr) (s:RS) (n:ByteArray) (pos:Int),Rg l.length s (tu s n pos l)
 |[],s,n,pos=>Rg.refl _
 |x::l,s,n,pos=>by
  rw[tu,List.length_cons,Nat.add_comm];refine Rg.trans ?_ (M5 l _ _ _)
  split
  ·exact Eh _ _ _ _
  ·exact(Rg.refl _).mono aG
structure Hg (s t:RS):Prop where
 uses:t.uses=s.uses
 aN:t.aN=s.aN
 ex:t.ex=s.ex
 aT:∃ls,t.aT=s.aT++ls
 this:t.this=s.this
 ins:t.ins=s.ins
 err:s.err≠0→t.err≠0
theorem Vb (s:RS)(x:Tr)(p:Int)(kE:Nat):Hg s (mD s x p kE):=by
 unfold mD
 split
 ·split
  ·have h:=Rg.fail s p 90 wN
   exact⟨rT _ _ _,h.aN,h.ex,⟨[],by rw[h.aT];simp⟩,h.this,h.ins,h.err⟩
  ·exact⟨rfl,rfl,rfl,⟨_,rfl⟩,rfl,rfl,id⟩
 ·exact⟨rfl,rfl,rfl,⟨[],qo⟩,rfl,rfl,id⟩
theorem nY (kE:Nat):∀(l:List Tr) (s:RS) (p:Int),Hg s (dS kE s p l)
 |[],s,p=>⟨rfl,rfl,rfl,⟨[],by simp[dS]⟩,rfl,rfl,id⟩
 |x::l,s,p=>by
  have h1:=Vb s x p kE;have h2:=nY kE l (mD s x p kE) (p+sz x);rw[dS];obtain⟨a,ha⟩:=h1.aT;obtain⟨b,hb⟩:=h2.aT;exact⟨h2.uses.trans h1.uses,h2.aN.trans h1.aN,h2.ex.trans h1.ex,⟨a++b,by rw[hb,ha,List.append_assoc]⟩,h2.this.trans h1.this,h2.ins.trans h1.ins,fun e=>h2.err (h1.err e)⟩
theorem BU {s e h t:RS}{n:Nat}(he:e.uses=s.uses∧e.aN=s.aN∧e.ex=s.ex∧e.aT=s.aT∧(s.err≠0→e.err≠0))(hh:Hg e h)(ht:Rg n h t):Rg n s (s.leave t):=by
 obtain⟨ls,hls⟩:=hh.aT;refine⟨?_,ht.aN.trans (hh.aN.trans he.2.1),ht.ex.trans (hh.ex.trans he.2.2.1),?_,rfl,rfl,fun q=>ht.err (hh.err (he.2.2.2.2 q))⟩
 ·have h1:=ht.uses
  rw[hh.uses,he.1]at h1;exact h1
 ·show t.aT.take s.aT.length=s.aT
  rw[ht.aT,hls,he.2.2.2.1];simp
mutual
theorem uH:∀(x:Tr) (s:RS) (pos:Int),Rg (flat x).length s (kR s pos x)
 |⟨k,n,v,l⟩,s,pos=>by
  rw[flat,List.length_cons,kR];have hk:=fun s'=>nZ l s' (pos+1);by_cases h6:k=6
  ·rw[if_pos h6];exact(rU _ _ _).mono aG
  rw[if_neg h6];by_cases h20:k=20
  ·rw[if_pos h20];exact(Rg.trans (rU _ _ _) (hk _)).mono aG
  rw[if_neg h20];by_cases qI:k=30
  ·rw[if_pos qI]
   by_cases hp:jR n=true
   ·rw[if_pos hp];exact(Rg.refl _).mono aG
   ·rw[if_neg hp];exact(M0 _ _ _).mono aG
  rw[if_neg qI];by_cases h18:k=18
  ·rw[if_pos h18];exact(afx l s pos).mono aG
  rw[if_neg h18];by_cases h7:k=7
  ·rw[if_pos h7]
   by_cases hp:s.this=true
   ·rw[if_pos hp];exact(Rg.refl _).mono aG
   ·rw[if_neg hp];exact(Rg.fail _ _ _ wN).mono aG
  rw[if_neg h7];by_cases h50:k=50
  ·rw[if_pos h50]
   refine(Rg.trans (n:=0) ?_ (hk _)).mono aG;by_cases hp:s.ins=true
   ·rw[if_pos hp];exact Rg.refl _
   ·rw[if_neg hp];exact Rg.fail _ _ _ wN
  rw[if_neg h50];by_cases h11:k=11
  ·rw[if_pos h11];exact Rg.mono (n:=(aM l).length) (BU (e:=s.enter s.this) ⟨rfl,rfl,rfl,rfl,id⟩ (nY _ _ _ _) (hk _)) (Nat.le_succ _)
  rw[if_neg h11];by_cases lU:k=41
  ·rw[if_pos lU];exact Rg.mono (n:=(aM l).length) (BU (e:=s.enter false) ⟨rfl,rfl,rfl,rfl,id⟩ (nY _ _ _ _) (hk _)) (Nat.le_succ _)
  rw[if_neg lU];by_cases Jq:k=44∨k=45
  ·rw[if_pos Jq];exact Rg.mono (n:=(aM l).length) (BU (e:=s.enter true) ⟨rfl,rfl,rfl,rfl,id⟩ (nY _ _ _ _) (hk _)) (Nat.le_succ _)
  rw[if_neg Jq];by_cases h43:k=43
  ·rw[if_pos h43]
   have h:=hk {s with this:=true};exact⟨by have:=h.uses;simp only at this⊢;omega,h.aN,h.ex,h.aT,rfl,h.ins,h.err⟩
  rw[if_neg h43];by_cases qJ:k=52
  ·rw[if_pos qJ]
   have hh:=nY s.aT.length l s (pos+1);have ht:=hk (dS s.aT.length s (pos+1) l);obtain⟨ls,hls⟩:=hh.aT;refine⟨by have:=ht.uses;rw[hh.uses]at this;simp only;omega,ht.aN.trans hh.aN,ht.ex.trans hh.ex,?_,ht.this.trans hh.this,ht.ins.trans hh.ins,fun q=>ht.err (hh.err q)⟩;simp only;rw[ht.aT,hls];simp
  rw[if_neg qJ];by_cases mh:k=60
  ·rw[if_pos mh];exact(Rg.refl _).mono aG
  rw[if_neg mh];by_cases h64:k=64
  ·rw[if_pos h64];exact(M5 _ _ _ _).mono (by have:=jY l;omega)
  ·rw[if_neg h64];exact(hk _).mono aG
theorem afx:∀(l:List Tr) (s:RS) (pos:Int),Rg ((aM l).length+1) s (wB s pos l)
 |[],s,pos=>by rw[wB];exact(Rg.refl _).mono aG
 |[a],s,pos=>by
  rw[wB,aM,aM,List.append_nil];exact(uH a _ _).mono aG
 |[a,b],s,pos=>by
  rw[wB,aM,aM,aM,List.append_nil,List.length_append]
  split
  ·refine(Rg.trans (n:=1) ?_ (uH b _ _)).mono aG
   split
   ·exact rU _ _ _
   ·exact(Rg.trans (rU s a.f1 (pos+1)) (Rg.fail _ pos 92 wN)).mono aG
  ·exact(Rg.trans (uH a _ _) (uH b _ _)).mono aG
 |a::b::c::l,s,pos=>by
  rw[wB,aM,aM,aM,List.length_append,List.length_append,List.length_append];exact(Rg.trans (Rg.trans (Rg.trans (uH a _ _) (uH b _ _)) (uH c _ _)) (nZ l _ _)).mono aG
theorem nZ:∀(l:List Tr) (s:RS) (pos:Int),Rg (aM l).length s (b_ s pos l)
 |[],s,pos=>by rw[b_,aM];exact Rg.refl _
 |x::l,s,pos=>by
  rw[b_,aM,List.length_append];exact Rg.trans (uH x _ _) (nZ l _ _)
end
theorem BZ (y:Tr):∀(l:List Tr) (s:RS) (pos:Int),b_ s pos (l++[y])=kR (b_ s pos l) (pos+(aM l).length) y
 |[],s,pos=>by simp[b_,aM]
 |x::l,s,pos=>by
  rw[List.cons_append,b_,BZ y l,b_,aM,List.length_append]
  congr 1
  unfold sz;omega
theorem Ka (y:Tr)(n:ByteArray):∀(l:List Tr) (s:RS) (pos:Int),tu s n pos (l++[y])=if n.toList.isEmpty then((tu s n pos l).je y.f1 (pos+(aM l).length) false).1 else tu s n pos l
 |[],s,pos=>by simp[tu,aM]
 |x::l,s,pos=>by
  rw[List.cons_append,tu,Ka y n l,tu,aM,List.length_append];have e:pos+sz x+((aM l).length:Int)=pos+(((flat x).length+(aM l).length:Nat):Int):=Cx;rw[e]
end Go.Proofs.YtldgmneijipbjaaGreatDoor.H
