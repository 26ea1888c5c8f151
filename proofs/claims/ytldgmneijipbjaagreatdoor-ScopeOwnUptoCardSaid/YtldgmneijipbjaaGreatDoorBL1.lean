import Derived.Test.YtldgmneijipbjaaGreatDoorBUK
import Derived.Test.YtldgmneijipbjaaGreatDoorBZ1
import Derived.KernelRfl
import Derived.Test.YtldgmneijipbjaaGreatDoorBMac
set_option linter.unusedVariables false
set_option linter.unusedSimpArgs false
set_option maxRecDepth 100000
set_option maxHeartbeats 16000000
section
namespace Go.Proofs.YtldgmneijipbjaaGreatDoor.H
open Go.RowKit Go.Proofs.YtldgmneijipbjaaGreatDoorW.PrintWords
open PScopeOwn
def Sits (L:List Tr)(p:Int)(x:Tr):Prop:=∃a b,L=a++(flat x++b)∧(a.length:Int)=p
def qW (L:List Tr)(p:Int)(l:List Tr):Prop:=∃a b,L=a++(aM l++b)∧(a.length:Int)=p
def zL (l:List Tr):Int:=(aM l).length
theorem lQ (l:List Tr):0≤zL l:=by unfold zL;omega
theorem wE (x:Tr):1≤sz x:=by unfold sz;have:=oM x;omega
theorem pK (x:Tr)(l:List Tr):zL (x::l)=sz x+zL l:=by unfold zL sz;rw[aM,List.length_append];omega
theorem Ia:zL []=0:=rfl
theorem Xx (a b:List Tr):zL (a++b)=zL a+zL b:=by unfold zL;rw[nX,List.length_append];omega
theorem nU (x:Tr):sz x=1+zL x.f3:=by unfold sz zL;rw[gD,List.length_cons];omega
section
variable {L:List Tr} {p pos lo mid hi lo' hi':Int} {x:Tr} {l:List Tr}
theorem Sits.kids (h:Sits L p x):qW L (p+1) x.f3:=by
 obtain⟨a,b,e,hp⟩:=h;refine⟨a++[x],b,?_,by rw[List.length_append];simp;omega⟩;rw[e,gD];simp
theorem qW.head (h:qW L p (x::l)):Sits L p x∧qW L (p+sz x) l:=by
 obtain⟨a,b,e,hp⟩:=h;rw[aM]at e;exact⟨⟨a,aM l++b,by rw[e];simp,hp⟩,⟨a++flat x,b,by rw[e];simp,by unfold sz;rw[List.length_append];omega⟩⟩
theorem Sits.at_ (h:Sits L p x):L[p.toNat]?=some x:=by
 obtain⟨a,b,e,hp⟩:=h;subst hp;rw[e,gD,Int.toNat_natCast,List.getElem?_append_right (Nat.le_refl _)];simp
structure zS (L:List Tr)(d:dQ):Prop where
 pos:1≤d.pos
 tree:∃y,L[d.pos.toNat]?=some y∧y.f1=d.name∧y.f0≠61∧y.f0≠63
structure Qo (L:List Tr)(t:dA):Prop where
 pos:1≤t.pos
 tree:∃y,L[t.pos.toNat]?=some y∧y.f0=t.kind∧(y.f0=61→∃k ks,y.f3=k::ks∧k.f1=t.name)∧(y.f0=63→t.name=bB)∧(y.f0≠61→y.f0≠63→y.f1=t.name)
structure KN (L:List Tr)(u:bV):Prop where
 tree:∃y,L[u.pos.toNat]?=some y∧y.f1=u.name
 decl:u.kind=1∨(1≤u.decl∧∃y,L[u.decl.toNat]?=some y∧(y.f0=61→u.kind=4∧∃k ks,y.f3=k::ks∧k.f1=u.name)∧y.f0≠63∧(y.f0≠61→y.f1=u.name))
def Cy (L:List Tr)(fP:List (List dQ)):Prop:=∀sc,sc∈fP→∀d,d∈sc→zS L d
def uO (L:List Tr)(aN:List dA):Prop:=∀t,t∈aN→Qo L t
structure Adds (L:List Tr)(lo hi:Int)(s t:PS):Prop where
 aN:t.aN=s.aN
 uses:∃us,t.uses=s.uses++us∧us.Pairwise (fun u v=>u.pos<v.pos)∧∀u,u∈us→lo≤u.pos∧u.pos<hi∧KN L u
variable {s t u:PS}
theorem Adds.sK (h:Gr 0 s t):Adds L lo hi s t:=⟨h.aN,[],by rw[h.zero];simp,.nil,fun u hu=>by cases hu⟩
theorem Adds.refl:Adds L lo hi s s:= .sK (Gr.refl s)
theorem Adds.mono (h:Adds L lo hi s t)(h1:lo'≤lo)(h2:hi≤hi'):Adds L lo' hi' s t:=by
 obtain⟨us,e,hp,ha⟩:=h.uses;exact⟨h.aN,us,e,hp,fun u hu=>⟨Int.le_trans h1 (ha u hu).1,Int.lt_of_lt_of_le (ha u hu).2.1 h2,(ha u hu).2.2⟩⟩
theorem Adds.trans (h:Adds L lo mid s t)(k:Adds L mid hi t u)(h1:lo≤mid)(h2:mid≤hi):Adds L lo hi s u:=by
 obtain⟨us,e,hp,ha⟩:=h.uses;obtain⟨vs,e',hp',ha'⟩:=k.uses;refine⟨k.aN.trans h.aN,us++vs,by rw[e',e,List.append_assoc],?_,fun u hu=>?_⟩
 ·exact List.pairwise_append.2 ⟨hp,hp',fun a h3 b h4=>by have:=(ha a h3).2.1;have:=(ha' b h4).1;omega⟩
 ·rcases List.mem_append.1 hu with hu|hu
  ·obtain⟨q1,q2,q3⟩:=ha u hu;exact⟨q1,aG,q3⟩
  ·obtain⟨q1,q2,q3⟩:=ha' u hu;exact⟨aG,q2,q3⟩
theorem Adds.one (v:bV)(hv:KN L v)(hp:v.pos=pos):Adds L pos (pos+1) s {s with uses:=s.uses++[v]}:=
 ⟨rfl,[v],rfl,List.pairwise_singleton _ _,fun u hu=>by rw[List.mem_singleton.1 hu];exact⟨aG,aG,hv⟩⟩
end
theorem Es {l:List dA}{s:ByteArray}{t:dA}(h:bO l s=some t):t∈l∧t.name=s:=⟨List.mem_of_find?_eq_some h,by simpa using List.find?_some h⟩
theorem KO {l:List (List dQ)}{s:ByteArray}{d:dQ}(h:iV l s=some d):∃sc,sc∈l∧d∈sc∧d.name=s:=by
 obtain⟨sc,h1,h2⟩:=List.exists_of_findSome?_eq_some h;exact⟨sc,Zu,by have:=List.mem_of_find?_eq_some h2;simpa using this,by simpa using List.find?_some h2⟩
section
variable {L:List Tr}
theorem Qp {t:dA}(h:Qo L t){y:Tr}{pos:Int}(hy:L[pos.toNat]?=some y)(hn:y.f1=t.name)(hd:t.name≠bB)(ty:Bool):KN L ⟨pos,uE t,t.pos,t.name,ty⟩:=by
 obtain⟨z,h1,h2,h3,h4,h5⟩:=h.tree;refine⟨⟨y,hy,hn⟩,.inr ⟨h.pos,z,h1,fun e=>⟨by unfold uE;rw[if_pos (h2▸e)],h3 e⟩,fun e=>hd (h4 e),fun e=>h5 e (fun e=>hd (h4 e))⟩⟩
theorem Xy {en:En}{st:PS}(he:Cy L en.fP)(ht:uO L st.aN)(s:ByteArray)(pos:Int){y:Tr}(hy:L[pos.toNat]?=some y)(hs:y.f1=s):Adds L pos (pos+1) st (st.value en s pos):=by
 unfold PS.value
 split
 ·exact .sK (Gr.fail _ _ _ wN)
 ·rename_i k d f hsd
  split
  ·exact .sK (Gr.fail _ _ _ wN)
  refine Adds.one _ ?_ rfl;unfold gH at hsd
  split at hsd
  ·rename_i dd hl
   obtain⟨sc,h1,h2,h3⟩:=KO hl;obtain⟨z,z1,z2,z3,z4⟩:=(he sc h1 dd h2).tree;simp only[Option.some.injEq,Prod.mk.injEq]at hsd;obtain⟨rfl,rfl,rfl⟩:=hsd;exact⟨⟨y,hy,hs⟩,.inr ⟨(he sc h1 dd h2).pos,z,z1,fun e=>absurd e z3,z4,fun _=>z2.trans h3⟩⟩
  ·split at hsd
   ·rename_i t hl
    split at hl
    ·cases hl
    rename_i hd
    obtain⟨h1,rfl⟩:=Es hl;simp only[Option.some.injEq,Prod.mk.injEq]at hsd;obtain⟨rfl,rfl,rfl⟩:=hsd;exact Qp (ht t h1) hy hs hd _
   ·split at hsd
    ·simp only[Option.some.injEq,Prod.mk.injEq]at hsd
     obtain⟨rfl,rfl,rfl⟩:=hsd;exact⟨⟨y,hy,hs⟩,.inl rfl⟩
    ·cases hsd
theorem Qq {st:PS}(ht:uO L st.aN)(s:ByteArray)(pos:Int)(ty:Bool){y:Tr}(hy:L[pos.toNat]?=some y)(hs:y.f1=s):Adds L pos (pos+1) st (st.only s pos ty):=by
 unfold PS.only
 split
 ·exact .sK (Gr.fail _ _ _ wN)
 ·rename_i t hl
  split
  ·exact .sK (Gr.fail _ _ _ wN)
  rename_i hd
  obtain⟨h1,rfl⟩:=Es hl;exact Adds.one _ (Qp (ht t h1) hy hs (fun e=>hd (.inl e)) _) rfl
theorem Xz {r:PS×List dQ}{x:Tr}{pos:Int}{free:Bool}(hp:1≤pos)(hs:L[pos.toNat]?=some x)(h1:x.f0≠61)(h2:x.f0≠63)(h:∀d,d∈r.2→zS L d):∀d,d∈(decP r x pos free).2→zS L d:=by
 unfold decP
 split
 ·exact h
 ·intro d hd
  rcases List.mem_append.1 hd with hd|hd
  ·exact h d hd
  ·rw[List.mem_singleton.1 hd];exact⟨hp,x,hs,rfl,h1,h2⟩
theorem XA:∀(l:List Tr) (r:PS×List dQ) (pos:Int),1≤pos→qW L pos l→(∀q,q∈l→q.f0=13)→(∀d,d∈r.2→zS L d)→∀d,d∈(fB r pos l).2→zS L d
 |[],r,pos,_,_,_,h=>h
 |x::l,r,pos,hp,hs,hk,h=>by
  rw[fB];obtain⟨h1,h2⟩:=hs.head;have hx:=hk x qo;exact XA l _ _ (by have:=wE x;omega) h2 (fun q hq=>hk q IW) (Xz hp h1.at_ aG aG h)
theorem XB:∀(l:List Tr) (r:PS×List dQ) (pos:Int),1≤pos→qW L pos l→(∀d,d∈r.2→zS L d)→∀d,d∈(gq r pos l).2→zS L d
 |[],r,pos,_,_,h=>h
 |x::l,r,pos,hp,hs,h=>by
  rw[gq];obtain⟨h1,h2⟩:=hs.head;refine XB l _ _ (by have:=wE x;omega) h2 ?_
  split
  ·exact Xz hp h1.at_ aG aG h
  ·exact h
theorem XC (s:ByteArray):∀(l:List Tr) (st:PS) (pos:Int),qW L pos l→(∀q,q∈l→sz q=2)→uO L st.aN→Adds L pos (pos+zL l) st (nO st s pos l)
 |[],st,pos,_,_,_=>Adds.refl
 |x::l,st,pos,hs,hk,ht=>by
  obtain⟨h1,h2⟩:=hs.head;have hx:=hk x qo;have hn:=lQ l;rw[nO,pK];rw[hx]at h2⊢
  have ha:Adds L pos (pos+1) st (if s.toList.isEmpty then st.only x.f1 pos false else st):=by
   split
   ·exact Qq ht _ _ _ h1.at_ rfl
   ·exact Adds.refl
  have hb:=XC s l (if s.toList.isEmpty then st.only x.f1 pos false else st) (pos+2) h2 (fun q hq=>hk q IW) (by rw[ha.aN];exact ht);exact(Adds.trans (ha.mono (Int.le_refl _) (show pos+1≤pos+2 from aG)) hb aG aG).mono aG aG
theorem Qr {fP:List (List dQ)}{sc:List dQ}(h:Cy L fP)(h2:∀d,d∈sc→zS L d):Cy L (fP++[sc]):=fun s hs d hd=>by
 rcases List.mem_append.1 hs with hs|hs
 ·exact h s hs d hd
 ·rw[List.mem_singleton.1 hs]at hd;exact h2 d hd
theorem XD {q t:Tr}(h:q.f3=[t])(h2:t.f3=[]):sz q=2:=by rw[nU,h,pK,nU,h2];rfl
theorem XE {en:En}{st:PS}{pos:Int}{l:List Tr}(hp:1≤pos)(hs:qW L (pos+1) l)(hl:∃p l',l=p::l'∧∀q,q∈p.f3→q.f0=13)(he:Cy L en.fP)(th:Bool):Cy L (en.fn (fB (st,[]) (pos+2) (fG l)).2 th).fP:=by
 obtain⟨p,l',rfl,hk⟩:=hl;refine Qr he (XA _ _ _ aG ?_ hk (fun d hd=>by cases hd));have:=hs.head.1.kids;rw[show pos+1+1=pos+2 from aG]at this;exact this
mutual
theorem ajw:∀(x:Tr) (en:En) (st:PS) (pos:Int),1≤pos→Sits L pos x→bM x→Cy L en.fP→uO L st.aN→Adds L pos (pos+sz x) st (mo en st pos x)
 |⟨k,s,n,l⟩,en,st,pos,hp,hs,ha,he,ht=>by
  have hk:∀en' st',k≠64→Cy L en'.fP→st'.aN=st.aN→Adds L (pos+1) (pos+1+zL l) st' (bK en' st' (pos+1) l):=fun en' st' h64 he' ht'=>AB l en' st' (pos+1) aG hs.kids (fun q hq=>ha.kid h64 hq) he' (by rw[ht'];exact ht);have hm:k=42→Adds L (pos+1) (pos+1+zL l) st (eZ en st (pos+1) l):=fun lV=>Qs l en st (pos+1) aG hs.kids (fun q hq=>ha.kid bN hq) (fun q hq=>ha.loc.cls lV q hq) he ht;have hz:sz (⟨k,s,n,l⟩:Tr)=1+zL l:=nU _;have hn:=lQ l;have hfn:=ha.loc.fn;have hfr:=ha.loc.kE;simp only at hfn hfr;rw[hz,mo];have two:∀{a b:PS},Adds L pos (pos+1) st a→Adds L (pos+1) (pos+1+zL l) a b→Adds L pos (pos+(1+zL l)) st b:=fun h1 h2=>(h1.trans h2 aG aG).mono aG aG;have one:∀{a:PS},Adds L pos (pos+1) st a→Adds L pos (pos+(1+zL l)) st a:=fun h1=>h1.mono aG aG;have hval:=Xy he ht s pos hs.at_ rfl;by_cases h6:k=6
  ·rw[if_pos h6];exact one hval
  rw[if_neg h6];by_cases h20:k=20
  ·rw[if_pos h20];exact two hval (hk _ _ aG he hval.aN)
  rw[if_neg h20];by_cases h7:k=7
  ·rw[if_pos h7]
   by_cases hth:en.this=true
   ·rw[if_pos hth];exact Adds.refl
   ·rw[if_neg hth];exact .sK (Gr.fail _ _ _ wN)
  rw[if_neg h7];by_cases h50:k=50
  ·rw[if_pos h50]
   by_cases hth:en.back=true
   ·rw[if_pos hth];exact two Adds.refl (hk _ _ aG he rfl)
   ·rw[if_neg hth];exact two (.sK (Gr.fail _ _ _ wN)) (hk _ _ aG he (Gr.fail _ _ _ wN).aN)
  rw[if_neg h50];by_cases h18:k=18
  ·rw[if_pos h18];exact two (.sK (MZ _ _ _ _)) (hk _ _ aG he (MZ _ _ _ _).aN)
  rw[if_neg h18];by_cases h11:k=11
  ·rw[if_pos h11];exact two (.sK (mW _ (st,[]) _)) (hk _ _ aG (XE hp hs.kids (hfn aG) he _) (mW _ (st,[]) _).aN)
  rw[if_neg h11];by_cases lU:k=41
  ·rw[if_pos lU];exact two (.sK (mW _ (st,[]) _)) (hk _ _ aG (XE hp hs.kids (hfn aG) he _) (mW _ (st,[]) _).aN)
  rw[if_neg lU];by_cases lV:k=42
  ·rw[if_pos lV];exact two Adds.refl (hm lV)
  rw[if_neg lV];by_cases qJ:k=52
  ·rw[if_pos qJ]
   exact two (.sK (uG _ (st,[]) _)) (hk _ _ aG (Qr he (XB _ _ _ aG hs.kids (fun d hd=>by cases hd))) (uG _ (st,[]) _).aN)
  rw[if_neg qJ];by_cases qI:k=30
  ·rw[if_pos qI]
   by_cases hth:jR s=true
   ·rw[if_pos hth];exact Adds.refl
   ·rw[if_neg hth];exact one (Qq ht s pos true hs.at_ rfl)
  rw[if_neg qI];by_cases mh:k=60
  ·rw[if_pos mh];exact Adds.refl
  rw[if_neg mh];by_cases h64:k=64
  ·rw[if_pos h64]
   exact two Adds.refl (XC s l st (pos+1) hs.kids (fun q hq=>by obtain⟨t,h1,h2⟩:=(hfr h64 q hq).1;exact XD h1 h2) ht)
  ·rw[if_neg h64];exact two Adds.refl (hk _ _ h64 he rfl)
theorem agk:∀(x:Tr) (en:En) (st:PS) (pos:Int),1≤pos→Sits L pos x→bM x→(x.f0=43∨x.f0=44∨x.f0=45)→Cy L en.fP→uO L st.aN→Adds L pos (pos+sz x) st (tq en st pos x)
 |⟨k,s,n,l⟩,en,st,pos,hp,hs,ha,hkd,he,ht=>by
  simp only at hkd;have hk:∀en' st',Cy L en'.fP→st'.aN=st.aN→Adds L (pos+1) (pos+1+zL l) st' (bK en' st' (pos+1) l):=fun en' st' he' ht'=>AB l en' st' (pos+1) aG hs.kids (fun q hq=>ha.kid bN hq) he' (by rw[ht'];exact ht);have hz:sz (⟨k,s,n,l⟩:Tr)=1+zL l:=nU _;have hn:=lQ l;have hfn:=ha.loc.fn;simp only at hfn;rw[hz,tq];have two:∀{a b:PS},Adds L pos (pos+1) st a→Adds L (pos+1) (pos+1+zL l) a b→Adds L pos (pos+(1+zL l)) st b:=fun h1 h2=>(h1.trans h2 aG aG).mono aG aG;by_cases h43:k=43
  ·rw[if_pos h43];exact two Adds.refl (hk _ _ he rfl)
  ·rw[if_neg h43];exact two (.sK (mW _ (st,[]) _)) (hk _ _ (XE hp hs.kids (hfn aG) he _) (mW _ (st,[]) _).aN)
theorem AB:∀(l:List Tr) (en:En) (st:PS) (pos:Int),1≤pos→qW L pos l→(∀q,q∈l→bM q)→Cy L en.fP→uO L st.aN→Adds L pos (pos+zL l) st (bK en st pos l)
 |[],en,st,pos,_,_,_,_,_=>by rw[bK];exact Adds.refl
 |x::l,en,st,pos,hp,hs,ha,he,ht=>by
  rw[bK,pK];have h1:=wE x;have h2:=lQ l;have hA:=ajw x en st pos hp hs.head.1 (ha x qo) he ht;exact(hA.trans (AB l en _ (pos+sz x) aG hs.head.2 (fun q hq=>ha q IW) he (by rw[hA.aN];exact ht)) aG aG).mono aG aG
theorem Qs:∀(l:List Tr) (en:En) (st:PS) (pos:Int),1≤pos→qW L pos l→(∀q,q∈l→bM q)→(∀q,q∈l→q.f0=43∨q.f0=44∨q.f0=45)→Cy L en.fP→uO L st.aN→Adds L pos (pos+zL l) st (eZ en st pos l)
 |[],en,st,pos,_,_,_,_,_,_=>by rw[eZ];exact Adds.refl
 |x::l,en,st,pos,hp,hs,ha,hk,he,ht=>by
  rw[eZ,pK];have h1:=wE x;have h2:=lQ l;have hA:=agk x en st pos hp hs.head.1 (ha x qo) (hk x qo) he ht;exact(hA.trans (Qs l en _ (pos+sz x) aG hs.head.2 (fun q hq=>ha q IW) (fun q hq=>hk q IW) he (by rw[hA.aN];exact ht)) aG aG).mono aG aG
end
end
def Cz (l:List Tr)(t:dA):Prop:=∃i:Nat,t.item=i∧i<l.length∧1+zL (l.take i)≤t.pos∧t.pos<1+zL (l.take (i+1))
structure TI (L l:List Tr)(hi:Int)(aN:List dA):Prop where
 nod:aN.Pairwise (fun a b=>a.name≠b.name)
 inc:aN.Pairwise (fun a b=>a.pos<b.pos)
 all:∀t,t∈aN→Qo L t∧t.pos<hi∧Cz l t
section
variable {L l:List Tr} {hi hi':Int} {st:PS}
theorem TI.mono {aN:List dA}(h:TI L l hi aN)(hh:hi≤hi'):TI L l hi' aN:=⟨h.nod,h.inc,fun t ht=>⟨(h.all t ht).1,by have:=(h.all t ht).2.1;omega,(h.all t ht).2.2⟩⟩
theorem TI.top (h:TI L l hi st.aN){name:ByteArray}{kind pos item:Int}{free:Bool}(hp:hi≤pos)(ok:Qo L ⟨name,kind,pos,item,!free⟩)(ik:Cz l ⟨name,kind,pos,item,!free⟩):TI L l (pos+1) (st.top name kind pos item free).aN:=by
 unfold PS.top
 split
 ·rw[(Gr.fail st 90 pos wN).aN];exact h.mono aG
 ·rename_i hno
  have hno:bO st.aN name=none:=by simpa using hno
  have hne:∀t,t∈st.aN→t.name≠name:=fun t ht e=>by
   unfold bO at hno;have:=List.find?_eq_none.1 hno t ht;simp[e]at this
  refine⟨List.pairwise_append.2 ⟨h.nod,List.pairwise_singleton _ _,fun a ha b hb=>by rw[List.mem_singleton.1 hb];exact hne a ha⟩,List.pairwise_append.2 ⟨h.inc,List.pairwise_singleton _ _,fun a ha b hb=>by rw[List.mem_singleton.1 hb];have:=(h.all a ha).2.1;simp only;omega⟩,fun t ht=>?_⟩;rcases List.mem_append.1 ht with ht|ht
  ·obtain⟨q1,q2,q3⟩:=h.all t ht;exact⟨q1,aG,q3⟩
  ·rw[List.mem_singleton.1 ht];exact⟨ok,bN,ik⟩
theorem qX (st:PS)(n:ByteArray)(p:Int):(st.give n p).aN=st.aN:=by
 unfold PS.give
 split
 ·exact(Gr.fail _ 90 p wN).aN
 ·rfl
theorem Et:∀(l:List Tr) (st:PS) (pos:Int),(lI st pos l).aN=st.aN
 |[],st,pos=>rfl
 |x::l,st,pos=>by
  rw[lI,Et l]
  split
  ·split
   ·exact qX _ _ _
   ·split
    ·rfl
    ·exact qX _ _ _
  ·rfl
theorem XF (item:Int)(q0 q1:Int)(hit:∀t:dA,t.item=item→q0≤t.pos→t.pos<q1→Cz l t):∀(ks:List Tr) (st:PS) (pos:Int),1≤pos→q0≤pos→pos+zL ks≤q1→qW L pos ks→(∀q,q∈ks→q.f0=61∧∃t,q.f3=[t]∧t.f3=[])→TI L l pos st.aN→TI L l (pos+zL ks) (vH st item pos ks).aN
 |[],st,pos,_,_,_,_,_,h=>h.mono (by rw[Ia];omega)
 |x::ks,st,pos,h0,h1,h2,hs,hk,h=>by
  obtain⟨hx,t,ht,htn⟩:=hk x qo;have hz:=XD ht htn;have hn:=lQ ks;rw[pK,hz]at h2⊢;have h3:=hs.head;rw[hz]at h3;rw[vH,ht];have hT:TI L l (pos+1) (st.top t.f1 61 pos item false).aN:=h.top (Int.le_refl _) ⟨h0,x,h3.1.at_,hx,fun _=>⟨t,[],ht,rfl⟩,fun e=>aG,fun e=>aG⟩ (hit _ rfl h1 bN);exact(XF item q0 q1 hit ks _ (pos+2) aG aG aG h3.2 (fun q hq=>hk q IW) (hT.mono aG)).mono aG
theorem Qt {x:Tr}{pos item:Int}(hp:1≤pos){q0:Int}(hq:q0≤pos)(hit:∀t:dA,t.item=item→q0≤t.pos→t.pos<pos+sz x→Cz l t)(hs:Sits L pos x)(hl:Loc x)(h:TI L l pos st.aN):TI L l (pos+sz x) (rR st x pos item).aN:=by
 have hz:=wE x;unfold rR
 split
 ·unfold U3
  exact(h.top (Int.le_refl _) ⟨hp,x,hs.at_,rfl,fun e=>aG,fun e=>aG,fun _ _=>rfl⟩ (hit _ rfl hq bN)).mono aG
 split
 ·rename_i mh
  have:=XF (L:=L) (l:=l) item q0 (pos+sz x) hit x.f3 st (pos+1) aG aG (by rw[nU x];omega) hs.kids (hl.imp mh) (h.mono aG);exact this.mono (by rw[nU x];omega)
 split
 ·rw[Et];exact h.mono aG
 ·exact h.mono aG
theorem abG {x:Tr}{pos item:Int}(hp:1≤pos)(hit:∀t:dA,t.item=item→pos≤t.pos→t.pos<pos+sz x→Cz l t)(hs:Sits L pos x)(ha:bM x)(h:TI L l pos st.aN):TI L l (pos+sz x) (kD st x pos item).aN:=by
 have hz:=wE x
 have kid:∀(st':PS) (t:Tr),st'.aN=st.aN→x.f3=[t]→x.f0≠64→TI L l (pos+sz x) (rR st' t (pos+1) item).aN:=fun st' t e ht h64=>by
  have hk:=hs.kids;rw[ht]at hk;have hsz:sz x=1+sz t:=by rw[nU x,ht,pK,Ia];omega
  have:=Qt (l:=l) (st:=st') (x:=t) (pos:=pos+1) (item:=item) aG (q0:=pos) aG (fun q h1 h2 h3=>hit q h1 h2 aG) hk.head.1 (ha.kid h64 (by rw[ht];simp)).loc (by rw[e];exact h.mono aG);exact this.mono aG
 unfold kD
 split
 ·rename_i Qn
  obtain⟨t,ht,-⟩:=ha.loc.exp Qn;rw[ht];exact kid _ t (qX _ _ _) ht aG
 split
 ·rename_i h63
  obtain⟨t,ht⟩:=ha.loc.dft h63;rw[ht];simp only
  split
  ·exact kid _ t (qX _ _ _) ht aG
  ·refine TI.mono (TI.top (hi:=pos) (by rw[qX];exact h) (Int.le_refl _) ⟨hp,x,hs.at_,h63,fun e=>aG,fun _=>rfl,fun _ e=>absurd h63 e⟩ (hit _ rfl (Int.le_refl _) bN)) aG
 ·exact Qt hp (Int.le_refl _) hit hs ha.loc h
end
theorem Qu {L l:List Tr}:∀(ks:List Tr) (st:PS) (i:Nat),l=l.take i++ks→i+ks.length=l.length→qW L (1+zL (l.take i)) ks→(∀q,q∈ks→bM q)→TI L l (1+zL (l.take i)) st.aN→TI L l (1+zL l) (iE st (1+zL (l.take i)) i ks).aN
 |[],st,i,he,hi,_,_,h=>by
  have e:l.take i=l:=List.take_of_length_le (by simp at hi;omega);rw[iE];rw[e]at h;exact h
 |x::ks,st,i,he,hi,hs,ha,h=>by
  have hx:l[i]?=some x:=by
   rw[he,List.getElem?_append_right (by rw[List.length_take];omega)];have:i-(l.take i).length=0:=by rw[List.length_take];simp at hi;omega
   rw[this];rfl
  have hil:i<l.length:=(List.getElem?_eq_some_iff.1 hx).1;have ht:l.take (i+1)=l.take i++[x]:=by rw[List.take_succ_eq_append_getElem hil,(List.getElem?_eq_some_iff.1 hx).2]
  have hz:1+zL (l.take (i+1))=1+zL (l.take i)+sz x:=by rw[ht,Xx,pK,Ia];omega
  have hn:=lQ (l.take i);rw[iE];have h1:=abG (x:=x) (pos:=1+zL (l.take i)) (item:=(i:Int)) aG (fun t h1 h2 h3=>⟨i,h1,hil,h2,by rw[hz];exact h3⟩) hs.head.1 (ha x qo) h;rw[←hz]at h1;have h2:=hs.head.2;rw[←hz]at h2⊢;exact Qu ks _ (i+1) (by rw[ht,List.append_assoc];exact he) (by simp at hi;omega) h2 (fun q hq=>ha q IW) h1
theorem KP (x:Tr):qW (flat x) 1 x.f3:=⟨[x],[],by rw[gD];simp,rfl⟩
theorem Ib {x:Tr}(h:eT x=5∨eT x=6):TI (flat x) x.f3 (flat x).length (fC x).aN:=by
 have hall:=fun q hq=>((xD h).2 q hq).1;have h1:=Qu (L:=flat x) (l:=x.f3) x.f3 st0 0 qo qo (by have:=KP x;rw[show 1+zL (x.f3.take 0)=1 from rfl];exact this) hall ⟨.nil,.nil,fun t ht=>by cases ht⟩;have e:1+zL (x.f3.take 0)=1:=by simp[zL,aM]
 rw[e]at h1;unfold fC;rw[(iX x.f3 en0 _ 1).aN];have e2:((flat x).length:Int)=1+zL x.f3:=nU x;rw[e2];exact h1
theorem abH {x:Tr}(h:eT x=5∨eT x=6):(fC x).uses.Pairwise (fun u v=>u.pos<v.pos)∧∀u,u∈(fC x).uses→1≤u.pos∧u.pos<(flat x).length∧KN (flat x) u:=by
 have hall:=fun q hq=>((xD h).2 q hq).1;have ht:=Ib h;have htop:uO (flat x) (iE st0 1 0 x.f3).aN:=fun t hm=>(ht.all t (by unfold fC;rw[(iX x.f3 en0 _ 1).aN];exact hm)).1;have hA:=AB (L:=flat x) x.f3 en0 (iE st0 1 0 x.f3) 1 aG (KP x) hall (fun sc hs=>by cases hs) htop;obtain⟨us,e,hp,ha⟩:=hA.uses;have e2:((flat x).length:Int)=1+zL x.f3:=nU x;have e3:(iE st0 1 0 x.f3).uses=[]:=(u7 x.f3 st0 1 0).uses;rw[e3,List.nil_append]at e;unfold fC;rw[e];exact⟨hp,fun u hu=>by obtain⟨q1,q2,q3⟩:=ha u hu;exact⟨q1,aG,q3⟩⟩
end Go.Proofs.YtldgmneijipbjaaGreatDoor.H
end
section
namespace Go.Proofs.YtldgmneijipbjaaGreatDoor.H
open Go.RowKit Go.Lib Go.Proofs.YtldgmneijipbjaaGreatDoorW.PrintWords
open PScopeOwn
def PS.up (T:dA)(e b:Int)(st:PS):PS:={st with aN:=st.aN++[T],err:=e,bad:=b}
section
variable {T:dA} {e b:Int}
theorem nD {n:Nat}{s t:PS}(h:Gr n s t)(ht:t.err=0):s.err=0:=by
 by_cases q:s.err=0
 ·exact q
 ·exact absurd ht (h.err q)
theorem CB {l:List dA}{s:ByteArray}(h:s≠T.name):bO (l++[T]) s=bO l s:=by
 unfold bO;rw[List.find?_append];simp[Ne.symm h]
theorem Qv (st:PS)(en:En){s:ByteArray}(h:s≠T.name):gH (st.up T e b) en s=gH st en s:=by
 unfold gH;rw[show bO (st.up T e b).aN s=bO st.aN s from CB h]
theorem XG (st:PS){s:ByteArray}(h:s≠T.name):iW (st.up T e b) s=iW st s:=by
 unfold iW;rw[show bO (st.up T e b).aN s=bO st.aN s from CB h]
theorem KR {st:PS}{en:En}{s:ByteArray}{pos:Int}(h:s≠T.name)(h0:(st.value en s pos).err=0):(st.up T e b).value en s pos=(st.value en s pos).up T e b:=by
 unfold PS.value at h0⊢;rw[Qv st en h,XG st h];exact ac2
theorem Qw {st:PS}{s:ByteArray}{pos:Int}{ty:Bool}(h:s≠T.name)(h0:(st.only s pos ty).err=0):(st.up T e b).only s pos ty=(st.only s pos ty).up T e b:=by
 unfold PS.only at h0⊢;rw[show bO (st.up T e b).aN s=bO st.aN s from CB h];exact ac2
theorem XH {st:PS}{sc:List dQ}{x:Tr}{pos:Int}{free:Bool}(h0:(decP (st,sc) x pos free).1.err=0):decP (st.up T e b,sc) x pos free=((decP (st,sc) x pos free).1.up T e b,(decP (st,sc) x pos free).2):=by
 unfold decP at h0⊢;simp only at h0⊢
 split at h0
 ·exact Qx
 ·rename_i hk
  rw[if_neg hk,if_neg hk]
theorem Ic:∀(l:List Tr) (st:PS) (sc:List dQ) (pos:Int),(fB (st,sc) pos l).1.err=0→fB (st.up T e b,sc) pos l=((fB (st,sc) pos l).1.up T e b,(fB (st,sc) pos l).2)
 |[],st,sc,pos,_=>rfl
 |x::l,st,sc,pos,h0=>by
  rw[fB]at h0;rw[fB,fB];have h1:(decP (st,sc) x pos true).1.err=0:=nD (mW l _ _) h0;rw[XH h1];exact Ic l _ _ _ h0
theorem NM:∀(l:List Tr) (st:PS) (sc:List dQ) (pos:Int),(gq (st,sc) pos l).1.err=0→gq (st.up T e b,sc) pos l=((gq (st,sc) pos l).1.up T e b,(gq (st,sc) pos l).2)
 |[],st,sc,pos,_=>rfl
 |x::l,st,sc,pos,h0=>by
  rw[gq]at h0;rw[gq,gq]
  split at h0
  ·rename_i hd
   rw[if_pos hd,if_pos hd];have h1:(decP (st,sc) x pos (x.f0==40&&x.f2==0)).1.err=0:=nD (uG l _ _) h0;rw[XH h1];exact NM l _ _ _ h0
  ·rename_i hd
   rw[if_neg hd,if_neg hd];exact NM l _ _ _ h0
theorem agl {st:PS}{en:En}{pos:Int}{l:List Tr}(hn:∀q,q∈l→q.f1≠T.name)(h0:(vG st en pos l).err=0):vG (st.up T e b) en pos l=(vG st en pos l).up T e b:=by
 cases l with
 |nil=>rfl
 |cons t l=>
  unfold vG at h0⊢;simp only at h0⊢;rw[Qv st en (hn t qo)];by_cases h6:t.f0=6
  ·rw[if_pos h6]at h0
   rw[if_pos h6,if_pos h6]
   split at h0
   ·split at h0
    ·rename_i hf
     rw[if_pos hf,if_pos hf]
    ·exact Qx
   ·rfl
  ·rw[if_neg h6,if_neg h6]
theorem NP (s:ByteArray):∀(l:List Tr) (st:PS) (pos:Int),(∀q,q∈l→q.f1≠T.name)→(nO st s pos l).err=0→nO (st.up T e b) s pos l=(nO st s pos l).up T e b
 |[],st,pos,_,_=>rfl
 |x::l,st,pos,hn,h0=>by
  rw[nO]at h0;rw[nO,nO];have hl:=fun q hq=>hn q (List.mem_cons_of_mem x hq);by_cases hs:s.toList.isEmpty=true
  ·rw[if_pos hs]at h0
   rw[if_pos hs,if_pos hs];have h1:(st.only x.f1 pos false).err=0:=nD (FN l _ _ _) h0;rw[Qw (hn x qo) h1];exact NP s l _ _ hl h0
  ·rw[if_neg hs]at h0
   rw[if_neg hs,if_neg hs];exact NP s l _ _ hl h0
theorem mem_root (x:Tr):x∈flat x:=by rw[gD];exact List.mem_cons_self
theorem XI {l:List Tr}(h:∀y,y∈aM l→y.f1≠T.name):∀q,q∈l→q.f1≠T.name:=fun q hq=>h q (oC.2 ⟨q,hq,mem_root q⟩)
mutual
theorem ajx:∀(x:Tr) (en:En) (st:PS) (pos:Int),(∀y,y∈flat x→y.f1≠T.name)→(mo en st pos x).err=0→mo en (st.up T e b) pos x=(mo en st pos x).up T e b
 |⟨k,s,n,l⟩,en,st,pos,hn,h0=>by
  have hs:s≠T.name:=hn _ (mem_root _);have hl:∀y,y∈aM l→y.f1≠T.name:=fun y hy=>hn y (by rw[flat];exact List.mem_cons_of_mem _ hy);have hq:=XI hl;have hk:=fun en' st' h=>AJ l en' st' (pos+1) hl h;have hkb:=fun en' st' (h:(bK en' st' (pos+1) l).err=0)=>nD (iX l en' st' (pos+1)) h;rw[mo]at h0;rw[mo,mo];by_cases h6:k=6
  ·rw[if_pos h6]at h0;rw[if_pos h6,if_pos h6];exact KR hs h0
  rw[if_neg h6]at h0;rw[if_neg h6,if_neg h6];by_cases h20:k=20
  ·rw[if_pos h20]at h0;rw[if_pos h20,if_pos h20,KR hs (hkb _ _ h0)];exact hk _ _ h0
  rw[if_neg h20]at h0;rw[if_neg h20,if_neg h20];by_cases h7:k=7
  ·rw[if_pos h7]at h0;rw[if_pos h7,if_pos h7]
   by_cases ht:en.this=true
   ·rw[if_pos ht,if_pos ht]
   ·rw[if_neg ht]at h0;exact absurd h0 (by unfold PS.fail at h0⊢;split<;>simp_all)
  rw[if_neg h7]at h0;rw[if_neg h7,if_neg h7];by_cases h50:k=50
  ·rw[if_pos h50]at h0;rw[if_pos h50,if_pos h50]
   by_cases ht:en.back=true
   ·rw[if_pos ht]at h0;rw[if_pos ht,if_pos ht];exact hk _ _ h0
   ·rw[if_neg ht]at h0;exact absurd (hkb _ _ h0) (by unfold PS.fail;split<;>simp_all)
  rw[if_neg h50]at h0;rw[if_neg h50,if_neg h50];by_cases h18:k=18
  ·rw[if_pos h18]at h0;rw[if_pos h18,if_pos h18,agl hq (hkb _ _ h0)];exact hk _ _ h0
  rw[if_neg h18]at h0;rw[if_neg h18,if_neg h18];by_cases h11:k=11
  ·rw[if_pos h11]at h0;rw[if_pos h11,if_pos h11,Ic _ _ _ _ (hkb _ _ h0)];exact hk _ _ h0
  rw[if_neg h11]at h0;rw[if_neg h11,if_neg h11];by_cases lU:k=41
  ·rw[if_pos lU]at h0;rw[if_pos lU,if_pos lU,Ic _ _ _ _ (hkb _ _ h0)];exact hk _ _ h0
  rw[if_neg lU]at h0;rw[if_neg lU,if_neg lU];by_cases lV:k=42
  ·rw[if_pos lV]at h0;rw[if_pos lV,if_pos lV];exact Qy l en st (pos+1) hl h0
  rw[if_neg lV]at h0;rw[if_neg lV,if_neg lV];by_cases qJ:k=52
  ·rw[if_pos qJ]at h0;rw[if_pos qJ,if_pos qJ,NM _ _ _ _ (hkb _ _ h0)];exact hk _ _ h0
  rw[if_neg qJ]at h0;rw[if_neg qJ,if_neg qJ];by_cases qI:k=30
  ·rw[if_pos qI]at h0;rw[if_pos qI,if_pos qI]
   by_cases ht:jR s=true
   ·rw[if_pos ht,if_pos ht]
   ·rw[if_neg ht]at h0;rw[if_neg ht,if_neg ht];exact Qw hs h0
  rw[if_neg qI]at h0;rw[if_neg qI,if_neg qI];by_cases mh:k=60
  ·rw[if_pos mh,if_pos mh]
  rw[if_neg mh]at h0;rw[if_neg mh,if_neg mh];by_cases h64:k=64
  ·rw[if_pos h64]at h0;rw[if_pos h64,if_pos h64];exact NP s l st (pos+1) hq h0
  ·rw[if_neg h64]at h0;rw[if_neg h64,if_neg h64];exact hk _ _ h0
theorem agm:∀(x:Tr) (en:En) (st:PS) (pos:Int),(∀y,y∈flat x→y.f1≠T.name)→(tq en st pos x).err=0→tq en (st.up T e b) pos x=(tq en st pos x).up T e b
 |⟨k,s,n,l⟩,en,st,pos,hn,h0=>by
  have hl:∀y,y∈aM l→y.f1≠T.name:=fun y hy=>hn y (by rw[flat];exact List.mem_cons_of_mem _ hy);have hk:=fun en' st' h=>AJ l en' st' (pos+1) hl h;have hkb:=fun en' st' (h:(bK en' st' (pos+1) l).err=0)=>nD (iX l en' st' (pos+1)) h;rw[tq]at h0;rw[tq,tq];by_cases h43:k=43
  ·rw[if_pos h43]at h0;rw[if_pos h43,if_pos h43];exact hk _ _ h0
  ·rw[if_neg h43]at h0;rw[if_neg h43,if_neg h43,Ic _ _ _ _ (hkb _ _ h0)];exact hk _ _ h0
theorem AJ:∀(l:List Tr) (en:En) (st:PS) (pos:Int),(∀y,y∈aM l→y.f1≠T.name)→(bK en st pos l).err=0→bK en (st.up T e b) pos l=(bK en st pos l).up T e b
 |[],en,st,pos,_,_=>by rw[bK,bK]
 |x::l,en,st,pos,hn,h0=>by
  rw[aM]at hn;rw[bK]at h0;rw[bK,bK,ajx x en st pos (fun y hy=>hn y (List.mem_append_left _ hy)) (nD (iX l en _ _) h0)];exact AJ l en _ _ (fun y hy=>hn y (List.mem_append_right _ hy)) h0
theorem Qy:∀(l:List Tr) (en:En) (st:PS) (pos:Int),(∀y,y∈aM l→y.f1≠T.name)→(eZ en st pos l).err=0→eZ en (st.up T e b) pos l=(eZ en st pos l).up T e b
 |[],en,st,pos,_,_=>by rw[eZ,eZ]
 |x::l,en,st,pos,hn,h0=>by
  rw[aM]at hn;rw[eZ]at h0;rw[eZ,eZ,agm x en st pos (fun y hy=>hn y (List.mem_append_left _ hy)) (nD (Aw l en _ _) h0)];exact Qy l en _ _ (fun y hy=>hn y (List.mem_append_right _ hy)) h0
end
end
def oo (s:ByteArray):Tr:=⟨47,⟨#[]⟩,0,[⟨6,s,0,[]⟩]⟩
def jl (s:ByteArray)(n:Int):Tr:=⟨40,s,n,[⟨14,⟨#[]⟩,0,[]⟩,⟨1,⟨#[]⟩,1,[]⟩]⟩
def DN (l:List Tr):Tr:=⟨68,⟨#[]⟩,0,l⟩
def dD (s:ByteArray):ByteArray:=⟨#[122,122]++s.data⟩
theorem ajy (s:ByteArray):sz (oo s)=2:=rfl
theorem XJ (s:ByteArray)(n:Int):sz (jl s n)=3:=rfl
theorem abI (s:ByteArray):(dD s).data[0]?=some 122:=by unfold dD;rw[Array.getElem?_append_left qo];rfl
theorem abJ (s:ByteArray):bl (dD s)=122::122::bl s:=by unfold dD bl;simp
theorem Qz {s t:ByteArray}(h:t.data[0]?≠some 122):dD s≠t:=fun e=>h (by rw[←e];exact abI s)
theorem QA (s:ByteArray){l:List ByteArray}(h:∀t,t∈l→t.data[0]?≠some 122):jE l (dD s)=false:=by
 unfold jE;rw[List.any_eq_false];intro t ht e;exact Qz (s:=s) (h t ht) (by simpa using Eq.symm (of_decide_eq_true e))
theorem Sm:∀(n:Nat) (l:List UInt8),ni n true l=true→ni n false l=true
 |0,_,_=>rfl
 |n+1,l,h=>by
  unfold ni at h⊢
  split
  ·rfl
  ·rename_i hne
   rw[if_neg hne,Bool.and_eq_true]at h;rw[Bool.and_eq_true];refine⟨?_,h.2⟩;have h1:=h.1;unfold Fu at h1⊢;simp only[Bool.not_true,Bool.false_and,Bool.or_false]at h1;rw[h1];rfl
theorem abK {s:ByteArray}(h:nH s=true):nH (dD s)=true:=by
 unfold nH eP eG at h⊢;simp only[Bool.and_eq_true]at h;obtain⟨⟨h1,h2,h3⟩,-⟩:=h;have hz:∀f,Fu f (122:Int)=true:=by intro f;cases f<;>decide
 have dz:∀l:List UInt8,Go.Lib.decodeL (122::l)=(122,1):=fun l=>Lib.decodeL_ascii 122 l wN
 have step:∀f (l:List UInt8),Fv f (122::l)=Fv false l:=fun f l=>by
  rw[tZ f _ qo,dz];simp only[List.drop_succ_cons,List.drop_zero];rw[show((122:Nat):Int)=122 from rfl,hz,Bool.true_and]
 rw[abJ,step,step,Lib.validD_cons _ _ wN,Lib.validD_cons _ _ wN,h3];have h4:Fv false (bl s)=true:=by unfold Fv at h2⊢;exact Sm _ _ h2
 rw[h4,QA s wN];rfl
theorem XK {s:ByteArray}(h:sZ s=false):sZ (dD s)=false:=by
 have e:bytesOf (dD s)=122::122::bytesOf s:=by
  unfold bytesOf dD;simp
 unfold sZ at h⊢;rw[e];simp only[List.any_cons,h];decide
section
variable {s:ByteArray}
theorem Ie (h:nH s=true):iP (oo s)=true:=by
 unfold iP oO oo;simp[Q,QR,BH,lT,qH,h]
theorem KS (h:nH s=true){n:Int}(hn:n=0∨n=1):iP (jl s n)=true:=by
 unfold iP oO jl;rcases hn with rfl|rfl<;>simp[Q,QR,BH,lT,qH,gT,h]
theorem CF {x:Tr}{l:List Tr}(h:eT x=5)(hl:l.all iP=true)(hd:gM l=false):eT (DN (x.f3++l))=5:=by
 obtain⟨k,t,n,ks⟩:=x
 have hk:k=68:=by
  unfold eT at h;by_cases e:k=68
  ·exact e
  simp only at h;rw[if_neg e]at h
  split at h;·split at h<;>omega
  split at h;·omega
  split at h;·omega
  split at h;·omega
  split at h<;>omega
 subst hk;unfold eT at h⊢;simp only[if_true]at h
 split at h
 ·rename_i hh
  simp only[Bool.and_eq_true,Bool.not_eq_true',l9,Bool.or_eq_false_iff]at hh;unfold DN;simp only[if_true];rw[if_pos];simp only[Bool.and_eq_true,Bool.not_eq_true',l9,Bool.or_eq_false_iff,List.all_append];refine⟨by simp[lT],⟨hh.2.1,hl⟩,wN,?_⟩;rw[uz,List.any_append,←uz,←uz,hh.2.2.2,hd];rfl
 ·omega
theorem NR (h:sZ s=false):l9 (oo s)=false:=by
 unfold oo;simp[l9,gM,h];decide
theorem QB (h:sZ s=false)(n:Int):l9 (jl s n)=false:=by
 unfold jl;simp[l9,gM,h];decide
end
section
variable {x:Tr} {s:ByteArray}
theorem agn (h:eT x=5)(hn:∀y,y∈flat x→y.f1≠s)(hd:s≠bB):bO (iE st0 1 0 x.f3).aN s=none:=by
 have ht:=Ib (.inl h);unfold fC at ht;rw[(iX x.f3 en0 _ 1).aN]at ht;unfold bO;rw[List.find?_eq_none];intro t hm e;have e:t.name=s:=by simpa using e
 obtain⟨y,h1,h2,h3,h4,h5⟩:=(ht.all t hm).1.tree;have hy:=List.mem_of_getElem? h1;by_cases e61:y.f0=61
 ·obtain⟨k,ks,h6,h7⟩:=h3 e61
  exact hn k (XL hy (by rw[h6];simp)) (h7.trans e)
 by_cases e63:y.f0=63
 ·exact hd (e▸h4 e63)
 exact hn y hy ((h5 e61 e63).trans e)
where
 XL {x y k:Tr} (hy:y∈flat x) (hk:k∈y.f3):k∈flat x:=by
  exact Eu x hy hk
 Eu (x:Tr) {y k:Tr} (hy:y∈flat x) (hk:k∈y.f3):k∈flat x:=by
  rw[gD]at hy⊢;rcases List.mem_cons.1 hy with rfl|hy
  ·exact List.mem_cons_of_mem _ (oC.2 ⟨k,hk,mem_root k⟩)
  ·obtain⟨q,hq,hyq⟩:=oC.1 hy
   exact List.mem_cons_of_mem _ (oC.2 ⟨q,hq,Eu q hyq hk⟩)
 termination_by SizeOf.sizeOf x
 decreasing_by exact fJ hq
end
end Go.Proofs.YtldgmneijipbjaaGreatDoor.H
end
section
namespace Go.Proofs.YtldgmneijipbjaaGreatDoor.H
open Go.RowKit Go.Proofs.YtldgmneijipbjaaGreatDoorW.PrintWords
open PScopeOwn
theorem NS (st:PS)(s:ByteArray)(p i:Int):kD st (oo s) p i=st:=by
 unfold kD rR oo;simp
theorem Ig (st:PS)(s:ByteArray)(n p i:Int):kD st (jl s n) p i=st.top s 40 p i (n==0):=by
 unfold kD rR U3 jl;simp
theorem XM (st:PS)(s:ByteArray)(p:Int):mo en0 st p (oo s)=st.value en0 s (p+1):=by
 unfold oo;simp[mo,bK]
theorem NT (st:PS)(s:ByteArray)(n p:Int):mo en0 st p (jl s n)=st:=by
 unfold jl;simp[mo,bK]
def vK (x:Tr)(s:ByteArray):Tr:=DN (x.f3++[oo s])
def r9 (x:Tr)(s:ByteArray):Tr:=DN (x.f3++[oo s]++[jl s 1])
def kH (x:Tr)(s:ByteArray):Tr:=DN (x.f3++[oo s]++[jl s 1]++[jl s 0])
section
variable {x:Tr} {s:ByteArray}
theorem Ih (x:Tr)(s:ByteArray):1+((aM (x.f3++[oo s])).length:Int)=(flat x).length+2:=by
 rw[gU,ajy];have:((flat x).length:Int)=1+(aM x.f3).length:=nU x;omega
theorem QC (x:Tr)(s:ByteArray):1+((aM (x.f3++[oo s]++[jl s 1])).length:Int)=(flat x).length+5:=by
 rw[gU,XJ];have:=Ih x s;omega
theorem Sn {K:PS}{p:Int}(h0:K.err=0)(ht:bO K.aN s=none)(hb:jE blt s=false):(K.value en0 s p).err=91∧(K.value en0 s p).bad=p:=by
 have hs:gH K en0 s=none:=by
  unfold gH;rw[show iV en0.fP s=none from rfl];simp only[ht,ite_self,hb];rfl
 unfold PS.value;rw[hs];simp only;unfold PS.fail;rw[if_pos (.inl h0)];exact⟨rfl,rfl⟩
theorem Ew {K:PS}{p q i:Int}{e b:Int}(ht:bO K.aN s=none)(hd:s≠bB):(K.up ⟨s,40,q,i,true⟩ e b).value en0 s p={K.up ⟨s,40,q,i,true⟩ e b with uses:=K.uses++[⟨p,3,q,s,false⟩]}:=by
 have ha:bO (K.up ⟨s,40,q,i,true⟩ e b).aN s=some ⟨s,40,q,i,true⟩:=by
  unfold bO at ht;unfold bO PS.up;rw[List.find?_append,ht];simp
 have hs:gH (K.up ⟨s,40,q,i,true⟩ e b) en0 s=some (3,q,false):=by
  unfold gH;rw[show iV en0.fP s=none from rfl];simp only[ha,if_neg hd];rfl
 have hal:iW (K.up ⟨s,40,q,i,true⟩ e b) s=false:=by unfold iW;rw[ha];rfl
 unfold PS.value;rw[hs];simp only[hal];rw[if_neg qo];rfl
theorem wF (h:eT x=5)(h0:(fC x).err=0)(hn:∀y,y∈flat x→y.f1≠s)(hd:s≠bB):
  ∃D K:PS,iE st0 1 0 x.f3=D∧bK en0 D 1 x.f3=K∧D.err=0∧K.err=0∧K.aN=D.aN∧bO D.aN s=none∧fC x=K∧
   ∀(q i e b:Int),bK en0 (D.up ⟨s,40,q,i,true⟩ e b) 1 x.f3=K.up ⟨s,40,q,i,true⟩ e b:=by
 have g:=iX x.f3 en0 (iE st0 1 0 x.f3) 1;have h0':(bK en0 (iE st0 1 0 x.f3) 1 x.f3).err=0:=h0;refine⟨_,_,rfl,rfl,nD g h0',h0',g.aN,agn h hn hd,rfl,fun q i e b=>?_⟩;exact AJ x.f3 en0 _ 1 (fun y hy=>hn y (by rw[gD];exact List.mem_cons_of_mem _ hy)) h0'
theorem XO (h:eT x=5)(h0:(fC x).err=0)(hn:∀y,y∈flat x→y.f1≠s)(hd:s≠bB)(hb:jE blt s=false):
  (fC (vK x s)).err=91∧(fC (vK x s)).bad=(flat x).length+1:=by
 obtain⟨D,K,hD,hK,d0,k0,kt,kn,-,-⟩:=wF h h0 hn hd
 have e:fC (vK x s)=K.value en0 s ((flat x).length+1):=by
  unfold fC vK DN;simp only;rw[lM,NS,lJ,hD,hK,XM];have:((flat x).length:Int)=1+(aM x.f3).length:=nU x;rw[this]
 rw[e];exact Sn k0 (by rw[kt];exact kn) hb
theorem QD {D:PS}{q i:Int}(d0:D.err=0)(kn:bO D.aN s=none):D.top s 40 q i ((1:Int)==0)=D.up ⟨s,40,q,i,true⟩ 0 D.bad:=by
 unfold PS.top;rw[kn];obtain⟨a,b,c,d,e⟩:=D;simp only at d0;subst d0;rfl
theorem Sq {D:PS}{q i q' i':Int}(kn:bO D.aN s=none):(D.up ⟨s,40,q,i,true⟩ 0 D.bad).top s 40 q' i' ((0:Int)==0)=D.up ⟨s,40,q,i,true⟩ 90 q':=by
 have ha:bO (D.up ⟨s,40,q,i,true⟩ 0 D.bad).aN s=some ⟨s,40,q,i,true⟩:=by
  unfold bO at kn;unfold bO PS.up;rw[List.find?_append,kn];simp
 unfold PS.top;rw[ha];simp only[Option.isSome_some,if_true];unfold PS.fail;rw[if_pos (.inl rfl)];rfl
theorem XP (h:eT x=5)(h0:(fC x).err=0)(hn:∀y,y∈flat x→y.f1≠s)(hd:s≠bB):
  (fC (r9 x s)).err=0∧(∃i,(fC (r9 x s)).aN=(fC x).aN++[⟨s,40,(flat x).length+2,i,true⟩])∧(fC (r9 x s)).uses=(fC x).uses++[⟨(flat x).length+1,3,(flat x).length+2,s,false⟩]:=by
 obtain⟨D,K,hD,hK,d0,k0,kt,kn,hr,hup⟩:=wF h h0 hn hd;have e1:((flat x).length:Int)=1+(aM x.f3).length:=nU x;obtain⟨i,hi⟩:∃i:Int,0+((x.f3++[oo s]).length:Int)=i:=⟨_,rfl⟩
 have e:fC (r9 x s)={K.up ⟨s,40,(flat x).length+2,i,true⟩ 0 D.bad with uses:=K.uses++[⟨(flat x).length+1,3,(flat x).length+2,s,false⟩]}:=by
  unfold fC r9 DN;simp only;rw[lM,Ig,lM,NS,lJ,lJ,hD,Ih,hi,QD d0 kn,hup,XM,NT,←e1];exact Ew (by rw[kt];exact kn) hd
 rw[e,hr];exact⟨rfl,⟨i,rfl⟩,rfl⟩
theorem NU (h:eT x=5)(h0:(fC x).err=0)(hn:∀y,y∈flat x→y.f1≠s)(hd:s≠bB):
  (fC (kH x s)).err=90∧(fC (kH x s)).bad=(flat x).length+5:=by
 obtain⟨D,K,hD,hK,d0,k0,kt,kn,hr,hup⟩:=wF h h0 hn hd;have e1:((flat x).length:Int)=1+(aM x.f3).length:=nU x;obtain⟨i,hi⟩:∃i:Int,0+((x.f3++[oo s]).length:Int)=i:=⟨_,rfl⟩
 have e:fC (kH x s)={K.up ⟨s,40,(flat x).length+2,i,true⟩ 90 ((flat x).length+5)with uses:=K.uses++[⟨(flat x).length+1,3,(flat x).length+2,s,false⟩]}:=by
  unfold fC kH DN;simp only;rw[lM,Ig,lM,Ig,lM,NS,lJ,lJ,lJ,hD,Ih,QC,hi,QD d0 kn,Sq kn,hup,XM,NT,NT,←e1];exact Ew (by rw[kt];exact kn) hd
 rw[e];exact⟨rfl,rfl⟩
end
abbrev sA:ByteArray:=⟨#[97]⟩
abbrev sX:ByteArray:=⟨#[120]⟩
def KU:Tr:=⟨68,⟨#[]⟩,0,[jl sA 1,oo sA,oo wu]⟩
def QE:Tr:=⟨68,⟨#[]⟩,0,[oo sX]⟩
theorem XQ:eT KU=5:=dL
theorem XR:eT QE=5:=dL
theorem AL:(fC KU).err=0:=dL
theorem XT:(fC KU).aN=[⟨sA,40,1,0,true⟩]:=dL
theorem XU:(fC KU).uses=[⟨5,3,1,sA,false⟩,⟨7,1,0,wu,false⟩]:=dL
theorem QF:(fC QE).err=91:=dL
theorem abL:(flat KU).length=8:=dL
theorem abM:(flat QE).length=3:=dL
theorem abN:(fC QE).bad=2:=dL
end Go.Proofs.YtldgmneijipbjaaGreatDoor.H
end
