import Derived.Test.YtldgmneijipbjaaGreatDoorBP1
import Derived.Test.YtldgmneijipbjaaGreatDoorBU5
import Derived.Test.YtldgmneijipbjaaGreatDoorBMac
set_option linter.unusedVariables false
set_option linter.unusedSimpArgs false
set_option maxRecDepth 100000
set_option maxHeartbeats 16000000
namespace Go.Proofs.YtldgmneijipbjaaGreatDoor.H
open Go.RowKit Go.Proofs.YtldgmneijipbjaaGreatDoorW.PrintWords
open PScopeOwn
def cv (d:dQ):kF:=⟨d.name,d.pos,d.free⟩
structure gJ (st:PS)(en:En)(s:RS):Prop where
 aN:s.aN=st.aN
 ex:s.ex=st.given
 aT:s.aT=en.fP.flatten.map cv
 this:s.this=en.this
 err:st.err=0↔s.err=0
 uses:st.err=0→s.uses=st.uses
theorem gJ.bad {st st':PS}{en:En}{s s':RS}(h:gJ st en s)(t1:st'.aN=st.aN)(t2:st'.given=st.given)(t3:st'.err≠0)(r1:s'.aN=s.aN)(r2:s'.ex=s.ex)(r3:s'.aT=s.aT)(r4:s'.this=s.this)(r5:s'.err≠0):gJ st' en s':=
 ⟨by rw[r1,t1];exact h.aN,by rw[r2,t2];exact h.ex,by rw[r3];exact h.aT,by rw[r4];exact h.this,by simp[t3,r5],fun e=>absurd e t3⟩
theorem mX (st:PS)(e p:Int)(he:e≠0):(st.fail e p).err≠0:=by
 unfold PS.fail
 split
 ·exact he
 ·rename_i h;intro q;exact h (.inl q)
theorem oD (s:RS)(p e:Int)(he:e≠0):(s.fail p e).err≠0:=by
 unfold RS.fail
 split
 ·exact he
 ·rename_i h;intro q;exact h (.inl q)
theorem gJ.fail {st:PS}{en:En}{s:RS}(h:gJ st en s)(e p e' p':Int)(he:e≠0)(he':e'≠0):gJ (st.fail e p) en (s.fail p' e'):=by
 have g:=Gr.fail st e p he;have r:=Rg.fail s p' e' he';exact h.bad g.aN g.given (mX _ _ _ he) r.aN r.ex r.aT r.this (oD _ _ _ he')
theorem gJ.app {st:PS}{en:En}{s:RS}(h:gJ st en s)(u:bV):gJ {st with uses:=st.uses++[u]} en {s with uses:=s.uses++[u]}:=
 ⟨h.aN,h.ex,h.aT,h.this,h.err,fun e=>by simp only;rw[h.uses e]⟩
theorem Gf (a b:List kF)(s:ByteArray):kQ (a++b) s=(kQ b s).or (kQ a s):=by
 unfold kQ;rw[List.reverse_append,List.find?_append]
theorem RZ (l:List dQ)(s:ByteArray):kQ (l.map cv) s=(kP l s).map cv:=by
 unfold kQ kP;rw[←List.map_reverse,List.find?_map];rfl
theorem abd (s:ByteArray):∀(n:Nat) (fP:List (List dQ)),fP.length=n→kQ (fP.flatten.map cv) s=(iV fP s).map cv:=by
 intro n
 induction n with
 |zero=>intro fP h;rw[List.length_eq_zero_iff.1 h];rfl
 |succ n ih=>
  intro fP h
  obtain⟨l',y,rfl⟩:∃l' y,fP=l'++[y]:=by
   rcases List.eq_nil_or_concat fP with e|⟨l',y,e⟩
   ·rw[e]at h;simp at h
   ·exact⟨l',y,by simpa using e⟩
  have h':l'.length=n:=by simpa using h
  rw[List.flatten_append,List.map_append,Gf,xK,ih l' h'];simp only[List.flatten_cons,List.flatten_nil,List.append_nil];rw[RZ]
  cases kP y s<;>rfl
theorem gJ.loc {st:PS}{en:En}{s:RS}(h:gJ st en s)(n:ByteArray):kQ s.aT n=(iV en.fP n).map cv:=by rw[h.aT];exact abd n _ _ rfl
theorem Vn {st:PS}{n:ByteArray}{t:dA}(h:bO st.aN n=some t):iW st n=(t.kind==46):=by unfold iW;rw[h]
theorem Gg {st:PS}{en:En}{s:RS}(h:gJ st en s)(n:ByteArray)(p:Int)(hd:n≠bB):
  gJ (st.value en n p) en (s.use n p).1∧(s.use n p).2=(match gH st en n with|some (_,_,f)=>f|none=>true):=by
 unfold PS.value RS.use;rw[h.loc]
 cases hl:iV en.fP n with
 |some d=>
  have hs:gH st en n=some (2,d.pos,d.free):=by unfold gH;rw[hl]
  rw[hs];simp only[Option.map_some];rw[if_neg (by rintro⟨e,-⟩;exact absurd e wN)];exact⟨h.app _,rfl⟩
 |none=>
  simp only[Option.map_none];unfold RS.je;rw[show bO s.aN n=bO st.aN n from by rw[h.aN]]
  cases ht:bO st.aN n with
  |some t=>
   have hs:gH st en n=some (uE t,t.pos,!t.cst):=by unfold gH;rw[hl];simp only;rw[if_neg hd,ht]
   rw[hs];simp only;rw[Vn ht];refine⟨?_,trivial⟩;by_cases h46:t.kind=46
   ·have e3:uE t=3:=by unfold uE;rw[if_neg aG]
    rw[if_pos ⟨e3,by simp[h46]⟩,if_pos ⟨trivial,h46⟩];have g:=Gr.fail st 91 p wN;have r:=Rg.fail s p 91 wN;exact h.bad g.aN g.given (mX _ _ _ wN) r.aN r.ex r.aT r.this (oD _ _ _ wN)
   ·rw[if_neg (by rintro⟨-,e⟩;simp at e;exact h46 e),if_neg (by rintro⟨-,e⟩;exact h46 e)]
    exact h.app _
  |none=>
   have hs:gH st en n=if jE blt n then some (1,0,false)else none:=by unfold gH;rw[hl];simp only;rw[if_neg hd,ht]
   rw[hs];simp only[Bool.true_and]
   cases hb:jE blt n with
   |true=>
    simp only[if_true];rw[if_neg (by rintro⟨e,-⟩;exact absurd e wN)];exact⟨h.app _,trivial⟩
   |false=>
    simp only[Bool.false_eq_true,if_false];exact⟨h.fail _ _ _ _ wN wN,trivial⟩
theorem Vo {st:PS}{en:En}{s:RS}(h:gJ st en s)(n:ByteArray)(p:Int)(hd:n≠bB):gJ (st.only n p true) en (s.kW n p):=by
 unfold PS.only RS.kW;rw[show bO s.aN n=bO st.aN n from by rw[h.aN]]
 cases ht:bO st.aN n with
 |none=>exact h.fail _ _ _ _ wN wN
 |some t=>
  simp only;by_cases hk:t.kind≠46∧t.kind≠42∧t.kind≠61
  ·rw[if_pos (.inr ⟨trivial,hk.1,hk.2.1,hk.2.2⟩),if_pos hk]
   exact h.fail _ _ _ _ wN wN
  ·rw[if_neg (by rintro(e|⟨-,e1,e2,e3⟩);exact hd e;exact hk ⟨e1,e2,e3⟩),if_neg hk]
   exact h.app _
theorem Vp {st:PS}{en:En}{s:RS}(h:gJ st en s)(n:ByteArray)(p:Int)(hd:n≠bB):gJ (st.only n p false) en (s.je n p false).1:=by
 unfold PS.only RS.je;rw[show bO s.aN n=bO st.aN n from by rw[h.aN]]
 cases ht:bO st.aN n with
 |none=>
  simp only[Bool.false_and,Bool.false_eq_true,if_false];exact h.fail _ _ _ _ wN wN
 |some t=>
  simp only;rw[if_neg (by rintro(e|⟨e,-⟩);exact hd e;cases e),if_neg (by rintro⟨e,-⟩;cases e)];exact h.app _
structure DC (st:PS)(fP:List (List dQ))(sc:List dQ)(th:Bool)(s:RS):Prop where
 aN:s.aN=st.aN
 ex:s.ex=st.given
 aT:s.aT=fP.flatten.map cv++sc.map cv
 this:s.this=th
 err:st.err=0↔s.err=0
 uses:st.err=0→s.uses=st.uses
theorem Vq (sc:List dQ)(n:ByteArray):yQ (sc.map cv) n=(kP sc n).isSome:=by
 unfold yQ kP;rw[Bool.eq_iff_iff,List.any_eq_true,List.find?_isSome];simp only[List.mem_map,decide_eq_true_eq,List.mem_reverse];constructor
 ·rintro⟨x,⟨a,ha,rfl⟩,e⟩;exact⟨a,ha,e⟩
 ·rintro⟨a,ha,e⟩;exact⟨cv a,⟨a,ha,rfl⟩,e⟩
theorem PY {st:PS}{fP:List (List dQ)}{sc:List dQ}{th:Bool}{s:RS}(h:DC st fP sc th s)(x:Tr)(p p':Int)(hp:p=p')(free:Bool)(hh:holds x=true)(hf:(x.f0==13||(x.f0==40&&x.f2==0))=free):
  DC (decP (st,sc) x p free).1 fP (decP (st,sc) x p free).2 th (mD s x p' fP.flatten.length):=by
 subst hp;unfold decP mD;rw[if_pos hh,h.aT];have e:(fP.flatten.map cv++sc.map cv).drop fP.flatten.length=sc.map cv:=by rw[←List.length_map (f:=cv),List.drop_left]
 rw[e,Vq];simp only
 cases hd:(kP sc x.f1).isSome with
 |true=>
  simp only[if_true];have g:=Gr.fail st 90 p wN;have r:=Rg.fail s p 90 wN;exact⟨by rw[r.aN,g.aN];exact h.aN,by rw[r.ex,g.given];exact h.ex,by rw[r.aT];exact h.aT,by rw[r.this];exact h.this,by simp[mX st 90 p wN,oD s p 90 wN],fun e=>absurd e (mX _ _ _ wN)⟩
 |false=>
  simp only[Bool.false_eq_true,if_false];exact⟨h.aN,h.ex,by simp only[List.map_append,List.append_assoc];rw[hf];rfl,h.this,h.err,h.uses⟩
theorem PZ {fP:List (List dQ)}{th:Bool}:∀(l:List Tr) (st:PS) (sc:List dQ) (s:RS) (p:Int),(∀q,q∈l→q.f0=13)→DC st fP sc th s→DC (fB (st,sc) p l).1 fP (fB (st,sc) p l).2 th (dS fP.flatten.length s p l)
 |[],st,sc,s,p,_,h=>h
 |x::l,st,sc,s,p,hk,h=>by
  have hx:=hk x qo;rw[fB,dS];have h1:=PY h x p p rfl true (by unfold holds;rw[hx];rfl) (by rw[hx];rfl);exact PZ l _ _ _ _ (fun q hq=>hk q IW) h1
theorem Gh {fP:List (List dQ)}{th:Bool}:∀(l:List Tr) (st:PS) (sc:List dQ) (s:RS) (p:Int),(∀q,q∈l→q.f0≠13)→DC st fP sc th s→DC (gq (st,sc) p l).1 fP (gq (st,sc) p l).2 th (dS fP.flatten.length s p l)
 |[],st,sc,s,p,_,h=>h
 |x::l,st,sc,s,p,hk,h=>by
  have hx:=hk x qo;rw[gq,dS];by_cases hd:x.f0=40∨x.f0=41
  ·rw[if_pos hd]
   have h1:=PY h x p p rfl (x.f0==40&&x.f2==0) (by unfold holds;rcases hd with e|e<;>rw[e]<;>rfl) (by rw[show(x.f0==13)=false from by simpa using hx];rfl);exact Gh l _ _ _ _ (fun q hq=>hk q IW) h1
  ·rw[if_neg hd]
   have e:mD s x p fP.flatten.length=s:=by
    unfold mD;rw[if_neg];unfold holds;simp only[Bool.or_eq_true,beq_iff_eq];omega
   rw[e];exact Gh l _ _ _ _ (fun q hq=>hk q IW) h
theorem gJ.open_ {st:PS}{en:En}{s:RS}(h:gJ st en s):DC st en.fP [] en.this s:=⟨h.aN,h.ex,by rw[h.aT];simp,h.this,h.err,h.uses⟩
theorem DC.close {st:PS}{fP:List (List dQ)}{sc:List dQ}{th:Bool}{s:RS}(h:DC st fP sc th s)(b:Bool):gJ st ⟨fP++[sc],th,b⟩ s:=⟨h.aN,h.ex,by rw[h.aT];simp,h.this,h.err,h.uses⟩
theorem Ei {st:PS}{en:En}{s:RS}(h:gJ st en s):s.aT.length=en.fP.flatten.length:=by rw[h.aT,List.length_map]
mutual
theorem abe:∀(x:Tr) (fP:List (List dQ)) (th b b':Bool) (st:PS) (pos:Int),U4 x=true→mo ⟨fP,th,b⟩ st pos x=mo ⟨fP,th,b'⟩ st pos x
 |⟨k,s,n,l⟩,fP,th,b,b',st,pos,h=>by
  rw[U4,Bool.and_eq_true,Bool.or_eq_true]at h;obtain⟨h50,h2⟩:=h;have h50:k≠50:=by simpa using h50
  by_cases h11:k=11
  ·subst h11;rw[mo,mo];rfl
  have hn:Tt l=true:=by rcases h2 with h2|h2;simp at h2;exact absurd h2 h11;exact h2
  rw[mo,mo];rw[if_neg h50,if_neg h50,if_neg h11,if_neg h11];have e1:∀st' p,bK ⟨fP,th,b⟩ st' p l=bK ⟨fP,th,b'⟩ st' p l:=fun st' p=>uY l fP th b b' st' p hn;have e2:∀sc st' p,bK (En.bk ⟨fP,th,b⟩ sc) st' p l=bK (En.bk ⟨fP,th,b'⟩ sc) st' p l:=fun sc st' p=>uY l (fP++[sc]) th b b' st' p hn;have e3:∀st' p,eZ ⟨fP,th,b⟩ st' p l=eZ ⟨fP,th,b'⟩ st' p l:=fun st' p=>Ej l fP th b b' st' p;rw[e1,e2,e3,e1,e1]
  try rfl
theorem uY:∀(l:List Tr) (fP:List (List dQ)) (th b b':Bool) (st:PS) (pos:Int),Tt l=true→bK ⟨fP,th,b⟩ st pos l=bK ⟨fP,th,b'⟩ st pos l
 |[],fP,th,b,b',st,pos,h=>by rw[bK,bK]
 |x::l,fP,th,b,b',st,pos,h=>by
  rw[Tt,Bool.and_eq_true]at h;rw[bK,bK,abe x fP th b b' st pos h.1,uY l fP th b b' _ _ h.2]
theorem Ej:∀(l:List Tr) (fP:List (List dQ)) (th b b':Bool) (st:PS) (pos:Int),eZ ⟨fP,th,b⟩ st pos l=eZ ⟨fP,th,b'⟩ st pos l
 |[],fP,th,b,b',st,pos=>by rw[eZ,eZ]
 |⟨k,s,n,m⟩::l,fP,th,b,b',st,pos=>by
  rw[eZ,eZ,Ej l fP th b b' _ _]
  congr 1
end
theorem gJ.left {st:PS}{en en2:En}{s t t1:RS}{st2:PS}(h:gJ st en s)(ht:gJ st2 en2 t)(g:st2.aN=st.aN∧st2.given=st.given)(e1:t1.aN=t.aN)(e2:t1.ex=t.ex)(e3:t1.aT=s.aT)(e4:t1.this=s.this)(e5:t1.err=t.err)(e6:t1.uses=t.uses):gJ st2 en t1:=
 ⟨by rw[e1];exact ht.aN,by rw[e2];exact ht.ex,by rw[e3];exact h.aT,by rw[e4];exact h.this,by rw[e5];exact ht.err,fun q=>by rw[e6];exact ht.uses q⟩
theorem P5 {en:En}(n:ByteArray):∀(l:List Tr) (st:PS) (s:RS) (p:Int),(∀q,q∈l→(∃t,q.f3=[t]∧t.f3=[])∧(n.toList=[]→q.f1≠bB))→gJ st en s→gJ (nO st n p l) en (tu s n p l)
 |[],st,s,p,_,h=>h
 |x::l,st,s,p,hk,h=>by
  obtain⟨⟨t,ht,htn⟩,hd⟩:=hk x qo;have hs:sz x=2:=by unfold sz;rw[gD,ht];simp[aM];rw[gD,htn];simp[aM]
  rw[nO,tu,hs];refine P5 n l _ _ _ (fun q hq=>hk q IW) ?_
  split
  ·rename_i he
   exact Vp h _ _ (hd (by simpa using he))
  ·exact h
theorem M9 {st:PS}{en:En}{s:RS}(h:gJ st en s)(hb:s.ins=en.back)(th:Bool)(pr:Tr)(l':List Tr)(hp:∀q,q∈pr.f3→q.f0=13)(pos:Int)
  (ih:∀(en':En) (st':PS) (s':RS) (p:Int),gJ st' en' s'→s'.ins=en'.back→gJ (bK en' st' p (pr::l')) en' (b_ s' p (pr::l'))):
  gJ (bK (en.fn (fB (st,[]) (pos+2) (fG (pr::l'))).2 th) (fB (st,[]) (pos+2) (fG (pr::l'))).1 (pos+1) (pr::l')) en (s.leave (b_ (dS s.aT.length (s.enter th) (pos+2) (fG (pr::l'))) (pos+1) (pr::l'))):=by
 show gJ (bK (en.fn (fB (st,[]) (pos+2) pr.f3).2 th) (fB (st,[]) (pos+2) pr.f3).1 (pos+1) (pr::l')) en (s.leave (b_ (dS s.aT.length (s.enter th) (pos+2) pr.f3) (pos+1) (pr::l')));have h0:DC st en.fP [] th (s.enter th):=⟨h.aN,h.ex,by show s.aT=_;rw[h.aT];simp,rfl,h.err,h.uses⟩;have h1:=PZ pr.f3 st [] (s.enter th) (pos+2) hp h0;rw[←Ei h]at h1;have hh:=nY s.aT.length pr.f3 (s.enter th) (pos+2);have h2:=ih (en.fn (fB (st,[]) (pos+2) pr.f3).2 th) _ _ (pos+1) (h1.close true) (by rw[hh.ins];rfl);have hr:=nZ (pr::l') (dS s.aT.length (s.enter th) (pos+2) pr.f3) (pos+1);have hg:=iX (pr::l') (en.fn (fB (st,[]) (pos+2) pr.f3).2 th) (fB (st,[]) (pos+2) pr.f3).1 (pos+1);have hg2:=mW pr.f3 (st,[]) (pos+2);obtain⟨ls,hls⟩:=hh.aT;refine h.left h2 ⟨hg.aN.trans hg2.aN,hg.given.trans hg2.given⟩ rfl rfl ?_ rfl rfl rfl;show(b_ _ _ _).aT.take s.aT.length=s.aT;rw[hr.aT];show(dS s.aT.length (s.enter th) (pos+2) pr.f3).aT.take s.aT.length=s.aT;rw[hls];show(s.aT++ls).take s.aT.length=s.aT;simp
theorem abf {st:PS}{en:En}{s:RS}(h:gJ st en s)(hb:s.ins=en.back)(a b:Tr)(pos:Int)(ha:bM a)
  (ih:∀(st':PS) (s':RS) (p:Int),gJ st' en s'→s'.ins=en.back→gJ (mo en st' p b) en (kR s' p b))
  (iha:∀(st':PS) (s':RS) (p:Int),gJ st' en s'→s'.ins=en.back→gJ (mo en st' p a) en (kR s' p a)):
  gJ (bK en (vG st en pos [a,b]) (pos+1) [a,b]) en (wB s pos [a,b]):=by
 rw[bK,bK,bK,wB];by_cases h6:a.f0=6
 ·rw[if_pos h6]
  have hnd:=ha.loc.nd (.inl h6);have hza:=ha.loc.nm h6;have hsa:sz a=1:=by unfold sz;rw[gD,hza];simp[aM]
  have hass:vG st en pos [a,b]=(match gH st en a.f1 with
   |some (_,_,free)=>if free=true then st else st.fail 92 pos
   |none=>st):=by unfold vG;simp only;rw[if_pos h6];cases gH st en a.f1<;>rfl
  obtain⟨h1,h2⟩:=Gg h a.f1 (pos+1) hnd
  have hwa:∀st',mo en st' (pos+1) a=st'.value en a.f1 (pos+1):=fun st'=>by
   obtain⟨k,n,v,l⟩:=a;simp only at h6;rw[mo,if_pos h6]
  rw[hwa,hsa,show pos+1+1=pos+2 from aG];have hri:=(rU s a.f1 (pos+1)).ins
  cases hs:gH st en a.f1 with
  |none=>
   rw[hs]at h2 hass;simp only at h2 hass;rw[hass,h2,if_pos rfl];exact ih _ _ _ h1 (by rw[hri];exact hb)
  |some q=>
   obtain⟨k,d,f⟩:=q;rw[hs]at h2 hass;simp only at h2 hass;rw[hass,h2]
   cases f with
   |true=>
    rw[if_pos rfl,if_pos rfl];exact ih _ _ _ h1 (by rw[hri];exact hb)
   |false=>
    rw[if_neg qo,if_neg qo];have g1:=Gr.fail st 92 pos wN;have g2:=xE (st.fail 92 pos) en a.f1 (pos+1);have r1:=rU s a.f1 (pos+1);have r2:=Rg.fail (s.use a.f1 (pos+1)).1 pos 92 wN;refine ih _ _ _ (h.bad (g2.aN.trans g1.aN) (g2.given.trans g1.given) (g2.err (mX _ _ _ wN)) (r2.aN.trans r1.aN) (r2.ex.trans r1.ex) (r2.aT.trans r1.aT) (r2.this.trans r1.this) (oD _ _ _ wN)) ?_;rw[r2.ins,hri];exact hb
 ·rw[if_neg h6]
  have hass:vG st en pos [a,b]=st:=by unfold vG;simp only;rw[if_neg h6]
  rw[hass];have h1:=iha st s (pos+1) h hb;exact ih _ _ _ h1 (by rw[(uH a s (pos+1)).ins];exact hb)
mutual
theorem M_:∀(x:Tr) (en:En) (st:PS) (s:RS) (pos:Int),bM x→x.f0≠43∧x.f0≠44∧x.f0≠45→gJ st en s→s.ins=en.back→gJ (mo en st pos x) en (kR s pos x)
 |⟨k,n,v,l⟩,en,st,s,pos,ha,hm,h,hb=>by
  have hl:=ha.loc;have J7:k≠64→∀q,q∈l→bM q:=fun hn q hq=>ha.kid (x:=⟨k,n,v,l⟩) hn hq;have hnm:k≠42→∀q,q∈l→q.f0≠43∧q.f0≠44∧q.f0≠45:=fun hn q hq=>hl.nomem hn q hq;have hk:k≠64→k≠42→∀(en':En) (st':PS) (s':RS) (p:Int),gJ st' en' s'→s'.ins=en'.back→gJ (bK en' st' p l) en' (b_ s' p l):=fun h1 h2 en' st' s' p q1 q2=>xL l en' st' s' p (J7 h1) (hnm h2) q1 q2;simp only at hm;by_cases h6:k=6
  ·subst h6
   rw[show mo en st pos ⟨6,n,v,l⟩=st.value en n pos from wM,show kR s pos ⟨6,n,v,l⟩=(s.use n pos).1 from yK];exact(Gg h n pos (hl.nd (.inl rfl))).1
  by_cases h20:k=20
  ·subst h20
   rw[show mo en st pos ⟨20,n,v,l⟩=bK en (st.value en n pos) (pos+1) l from wM,show kR s pos ⟨20,n,v,l⟩=b_ (s.use n pos).1 (pos+1) l from yK];exact hk wN wN _ _ _ _ (Gg h n pos (hl.nd (.inr (.inl rfl)))).1 (by rw[(rU s n pos).ins];exact hb)
  by_cases qI:k=30
  ·subst qI
   rw[show mo en st pos ⟨30,n,v,l⟩=(if jR n then st else st.only n pos true)from wM,show kR s pos ⟨30,n,v,l⟩=(if jR n then s else s.kW n pos)from yK]
   cases hp:jR n with
   |true=>exact h
   |false=>exact Vo h n pos (hl.nd (.inr (.inr rfl)))
  by_cases h7:k=7
  ·subst h7
   rw[show mo en st pos ⟨7,n,v,l⟩=(if en.this=true then st else st.fail 93 pos)from wM,show kR s pos ⟨7,n,v,l⟩=(if s.this=true then s else s.fail pos 93)from yK];rw[h.this]
   cases hp:en.this with
   |true=>exact h
   |false=>exact h.fail _ _ _ _ wN wN
  by_cases h50:k=50
  ·subst h50
   rw[show mo en st pos ⟨50,n,v,l⟩=bK en (if en.back=true then st else st.fail 93 pos) (pos+1) l from wM,show kR s pos ⟨50,n,v,l⟩=b_ (if s.ins=true then s else s.fail pos 93) (pos+1) l from yK];rw[hb]
   cases hp:en.back with
   |true=>exact hk wN wN _ _ _ _ h hb
   |false=>exact hk wN wN _ _ _ _ (h.fail _ _ _ _ wN wN) (by rw[show(if false=true then s else s.fail pos 93)=s.fail pos 93 from rfl,(Rg.fail s pos 93 wN).ins];exact hb)
  by_cases h18:k=18
  ·subst h18
   rw[show mo en st pos ⟨18,n,v,l⟩=bK en (vG st en pos l) (pos+1) l from wM,show kR s pos ⟨18,n,v,l⟩=wB s pos l from yK];exact abg l en st s pos (J7 wN) (hnm wN) (hl.asg rfl) h hb
  by_cases h11:k=11
  ·subst h11
   rw[show mo en st pos ⟨11,n,v,l⟩=bK (en.fn (fB (st,[]) (pos+2) (fG l)).2 en.this) (fB (st,[]) (pos+2) (fG l)).1 (pos+1) l from wM,show kR s pos ⟨11,n,v,l⟩=s.leave (b_ (dS s.aT.length (s.enter s.this) (pos+2) (fG l)) (pos+1) l)from yK];obtain⟨pr,l',hpl,hp⟩:=hl.fn (.inl rfl);simp only at hpl;have hk:=hk wN wN;clear J7 hnm hl ha;subst hpl;rw[h.this];exact M9 h hb en.this pr l' hp pos hk
  by_cases lU:k=41
  ·subst lU
   rw[show mo en st pos ⟨41,n,v,l⟩=bK (en.fn (fB (st,[]) (pos+2) (fG l)).2 false) (fB (st,[]) (pos+2) (fG l)).1 (pos+1) l from wM,show kR s pos ⟨41,n,v,l⟩=s.leave (b_ (dS s.aT.length (s.enter false) (pos+2) (fG l)) (pos+1) l)from yK];obtain⟨pr,l',hpl,hp⟩:=hl.fn (.inr (.inl rfl));simp only at hpl;have hk:=hk wN wN;clear J7 hnm hl ha;subst hpl;exact M9 h hb false pr l' hp pos hk
  by_cases lV:k=42
  ·subst lV
   rw[show mo en st pos ⟨42,n,v,l⟩=eZ en st (pos+1) l from wM,show kR s pos ⟨42,n,v,l⟩=b_ s (pos+1) l from yK];exact Ko l en st s (pos+1) (J7 wN) (hl.cls rfl) h hb
  by_cases qJ:k=52
  ·subst qJ
   rw[show mo en st pos ⟨52,n,v,l⟩=bK (en.bk (gq (st,[]) (pos+1) l).2) (gq (st,[]) (pos+1) l).1 (pos+1) l from wM,show kR s pos ⟨52,n,v,l⟩={b_ (dS s.aT.length s (pos+1) l) (pos+1) l with aT:=(b_ (dS s.aT.length s (pos+1) l) (pos+1) l).aT.take s.aT.length}from yK];have h1:=Gh l st [] s (pos+1) (hl.blk rfl) h.open_;rw[←Ei h]at h1;have hh:=nY s.aT.length l s (pos+1);have h2:=hk wN wN (en.bk (gq (st,[]) (pos+1) l).2) _ _ (pos+1) (h1.close en.back) (by rw[hh.ins];exact hb);have hr:=nZ l (dS s.aT.length s (pos+1) l) (pos+1);have hg:=iX l (en.bk (gq (st,[]) (pos+1) l).2) (gq (st,[]) (pos+1) l).1 (pos+1);have hg2:=uG l (st,[]) (pos+1);obtain⟨ls,hls⟩:=hh.aT;refine h.left h2 ⟨hg.aN.trans hg2.aN,hg.given.trans hg2.given⟩ rfl rfl ?_ ?_ rfl rfl
   ·simp only
    rw[hr.aT,hls];simp
   ·simp only
    rw[hr.this,hh.this]
  by_cases mh:k=60
  ·subst mh
   rw[show mo en st pos ⟨60,n,v,l⟩=st from wM,show kR s pos ⟨60,n,v,l⟩=s from yK];exact h
  by_cases h64:k=64
  ·subst h64
   rw[show mo en st pos ⟨64,n,v,l⟩=nO st n (pos+1) l from wM,show kR s pos ⟨64,n,v,l⟩=tu s n (pos+1) l from yK];exact P5 n l st s (pos+1) (hl.kE rfl) h
  rw[mo,kR];rw[if_neg h6,if_neg h20,if_neg h7,if_neg h50,if_neg h18,if_neg h11,if_neg lU,if_neg lV,if_neg qJ,if_neg qI,if_neg mh,if_neg h64];rw[if_neg h6,if_neg h20,if_neg qI,if_neg h18,if_neg h7,if_neg h50,if_neg h11,if_neg lU,if_neg aG,if_neg aG,if_neg qJ,if_neg mh,if_neg h64];exact hk h64 lV _ _ _ _ h hb
theorem abg:∀(l:List Tr) (en:En) (st:PS) (s:RS) (pos:Int),(∀q,q∈l→bM q)→(∀q,q∈l→q.f0≠43∧q.f0≠44∧q.f0≠45)→(∃a b,l=[a,b])→gJ st en s→s.ins=en.back→gJ (bK en (vG st en pos l) (pos+1) l) en (wB s pos l)
 |[a,b],en,st,s,pos,ha,hm,hl,h,hb=>abf h hb a b pos (ha a qo) (fun st' s' p q1 q2=>M_ b en st' s' p (ha b qo) (hm b qo) q1 q2) (fun st' s' p q1 q2=>M_ a en st' s' p (ha a qo) (hm a qo) q1 q2)
 |[],en,st,s,pos,ha,hm,hl,h,hb=>by obtain⟨a,b,e⟩:=hl;cases e
 |[_],en,st,s,pos,ha,hm,hl,h,hb=>by obtain⟨a,b,e⟩:=hl;cases e
 |_::_::_::_,en,st,s,pos,ha,hm,hl,h,hb=>by obtain⟨a,b,e⟩:=hl;cases e
theorem xL:∀(l:List Tr) (en:En) (st:PS) (s:RS) (pos:Int),(∀q,q∈l→bM q)→(∀q,q∈l→q.f0≠43∧q.f0≠44∧q.f0≠45)→gJ st en s→s.ins=en.back→gJ (bK en st pos l) en (b_ s pos l)
 |[],en,st,s,pos,ha,hm,h,hb=>by rw[bK,b_];exact h
 |x::l,en,st,s,pos,ha,hm,h,hb=>by
  rw[bK,b_];exact xL l en _ _ _ (fun q hq=>ha q IW) (fun q hq=>hm q IW) (M_ x en st s pos (ha x qo) (hm x qo) h hb) (by rw[(uH x s pos).ins];exact hb)
theorem Ko:∀(l:List Tr) (en:En) (st:PS) (s:RS) (pos:Int),(∀q,q∈l→bM q)→(∀q,q∈l→q.f0=43∨q.f0=44∨q.f0=45)→gJ st en s→s.ins=en.back→gJ (eZ en st pos l) en (b_ s pos l)
 |[],en,st,s,pos,ha,hm,h,hb=>by rw[eZ,b_];exact h
 |⟨k,n,v,m⟩::l,en,st,s,pos,ha,hm,h,hb=>by
  rw[eZ,b_];refine Ko l en _ _ _ (fun q hq=>ha q IW) (fun q hq=>hm q IW) ?_ (by rw[(uH ⟨k,n,v,m⟩ s pos).ins];exact hb);have hax:=ha ⟨k,n,v,m⟩ qo;have hmx:=hm ⟨k,n,v,m⟩ qo;simp only at hmx;have hl:=hax.loc;have hk:∀(en':En) (st':PS) (s':RS) (p:Int),gJ st' en' s'→s'.ins=en'.back→gJ (bK en' st' p m) en' (b_ s' p m):=fun en' st' s' p q1 q2=>xL m en' st' s' p (fun q hq=>hax.kid (x:=⟨k,n,v,m⟩) bN hq) (hl.nomem bN) q1 q2;rw[tq];by_cases h43:k=43
  ·subst h43
   rw[if_pos rfl,show kR s pos ⟨43,n,v,m⟩={b_ {s with this:=true} (pos+1) m with this:=s.this}from yK];have hnr:Tt m=true:=by rw[Aq,List.all_eq_true];exact hl.fld rfl
   rw[uY m en.fP true false s.ins st (pos+1) hnr];have h1:gJ st ⟨en.fP,true,s.ins⟩ {s with this:=true}:=⟨h.aN,h.ex,h.aT,rfl,h.err,h.uses⟩;have h2:=hk ⟨en.fP,true,s.ins⟩ st {s with this:=true} (pos+1) h1 rfl;have hg:=iX m ⟨en.fP,true,s.ins⟩ st (pos+1);have hr:=nZ m {s with this:=true} (pos+1);exact h.left h2 ⟨hg.aN,hg.given⟩ rfl rfl hr.aT rfl rfl rfl
  ·have e:kR s pos ⟨k,n,v,m⟩=s.leave (b_ (dS s.aT.length (s.enter true) (pos+2) (fG m)) (pos+1) m):=by
    rw[kR];rcases hmx with e|e|e
    ·exact absurd e h43
    ·subst e;simp
    ·subst e;simp
   rw[if_neg h43,e];obtain⟨pr,l',hpl,hp⟩:=hl.fn bN;simp only at hpl;clear hl hax e;subst hpl;exact M9 h hb true pr l' hp pos hk
end
structure uK (st:PS)(s:RS):Prop where
 aN:s.aN=st.aN
 ex:s.ex=st.given
 err:st.err=0↔s.err=0
 uses:s.uses=[]∧st.uses=[]
 aT:s.aT=[]
 this:s.this=false
 ins:s.ins=false
theorem uK.top {st:PS}{s:RS}(h:uK st s)(name:ByteArray)(kind p item:Int)(free:Bool):uK (st.top name kind p item free) (s.FP name kind p item free):=by
 unfold PS.top RS.FP;rw[show bO s.aN name=bO st.aN name from by rw[h.aN]]
 cases(bO st.aN name).isSome with
 |true=>
  simp only[if_true];have g:=Gr.fail st 90 p wN;have r:=Rg.fail s p 90 wN;exact⟨by rw[r.aN,g.aN];exact h.aN,by rw[r.ex,g.given];exact h.ex,by simp[mX st 90 p wN,oD s p 90 wN],⟨by rw[rT];exact h.uses.1,by rw[g.zero];exact h.uses.2⟩,by rw[r.aT];exact h.aT,by rw[r.this];exact h.this,by rw[r.ins];exact h.ins⟩
 |false=>
  simp only[Bool.false_eq_true,if_false];exact⟨by simp only;rw[h.aN],h.ex,h.err,h.uses,h.aT,h.this,h.ins⟩
theorem uK.give {st:PS}{s:RS}(h:uK st s)(name:ByteArray)(p:Int):uK (st.give name p) (s.give name p):=by
 unfold PS.give RS.give;rw[show jE s.ex name=jE st.given name from by rw[h.ex]]
 cases jE st.given name with
 |true=>
  simp only[if_true];have g:=Gr.fail {st with given:=st.given++[name]} 90 p wN;have r:=Rg.fail s p 90 wN;exact⟨by rw[g.aN];simp only;rw[r.aN];exact h.aN,by rw[g.given];simp only;rw[h.ex],by simp[mX {st with given:=st.given++[name]} 90 p wN,oD s p 90 wN],⟨by simp only;rw[rT];exact h.uses.1,by rw[g.zero];exact h.uses.2⟩,by simp only;rw[r.aT];exact h.aT,by simp only;rw[r.this];exact h.this,by simp only;rw[r.ins];exact h.ins⟩
 |false=>
  simp only[Bool.false_eq_true,if_false];exact⟨h.aN,by simp only;rw[h.ex],h.err,h.uses,h.aT,h.this,h.ins⟩
theorem Vr {x t:Tr}(h:x.f3=[t])(ht:t.f3=[]):sz x=2:=by unfold sz;rw[gD,h];simp[aM];rw[gD,ht];simp[aM]
theorem P6 (item:Int):∀(l:List Tr) (st:PS) (s:RS) (p:Int),(∀q,q∈l→∃t,q.f3=[t]∧t.f3=[])→uK st s→uK (vH st item p l) (yR s item p l)
 |[],st,s,p,_,h=>h
 |x::l,st,s,p,hk,h=>by
  obtain⟨t,ht,htn⟩:=hk x qo;rw[vH,yR,Vr ht htn];refine P6 item l _ _ _ (fun q hq=>hk q IW) ?_;rw[ht];exact h.top _ _ _ _ _
theorem Kq:∀(l:List Tr) (st:PS) (s:RS) (p:Int),(∀q,q∈l→∃t,q.f3=[t]∧t.f3=[])→uK st s→uK (lI st p l) (nS s p l)
 |[],st,s,p,_,h=>h
 |x::l,st,s,p,hk,h=>by
  obtain⟨t,ht,htn⟩:=hk x qo;rw[lI,nS,Vr ht htn];refine Kq l _ _ _ (fun q hq=>hk q IW) ?_;rw[ht];simp only
  split
  ·exact h.give _ _
  ·split
   ·exact h
   ·exact h.give _ _
theorem Cb {st:PS}{s:RS}(h:uK st s)(x:Tr)(hl:Loc x)(p item:Int):uK (rR st x p item) (sH s x p item):=by
 unfold rR sH U3;by_cases h1:x.f0=40∨x.f0=41∨x.f0=42∨x.f0=46∨x.f0=66
 ·rw[if_pos h1,if_pos h1];exact h.top _ _ _ _ _
 rw[if_neg h1,if_neg h1];by_cases h2:x.f0=60
 ·rw[if_pos h2,if_pos h2];exact P6 item _ _ _ _ (fun q hq=>(hl.imp h2 q hq).2) h
 rw[if_neg h2,if_neg h2];by_cases h3:x.f0=64
 ·rw[if_pos h3,if_pos h3];exact Kq _ _ _ _ (fun q hq=>(hl.kE h3 q hq).1) h
 rw[if_neg h3,if_neg h3];exact h
theorem Vs {st:PS}{s:RS}(h:uK st s)(x:Tr)(ha:bM x)(p item:Int):uK (kD st x p item) (gB s x p item):=by
 have hl:=ha.loc;unfold kD gB;by_cases h1:x.f0=62
 ·rw[if_pos h1,if_pos h1]
  obtain⟨t,ht,-⟩:=hl.exp h1;have hlt:Loc t:=(ha.kid aG (by rw[ht];simp)).loc;rw[ht];exact Cb (h.give _ _) t hlt _ _
 rw[if_neg h1,if_neg h1];by_cases h2:x.f0=63
 ·rw[if_pos h2,if_pos h2]
  obtain⟨t,ht⟩:=hl.dft h2;have hlt:Loc t:=(ha.kid aG (by rw[ht];simp)).loc;rw[ht];simp only;by_cases h3:t.f0=41∨t.f0=42
  ·rw[if_pos h3,if_pos h3];exact Cb (h.give _ _) t hlt _ _
  ·rw[if_neg h3,if_neg h3];exact(h.give _ _).top _ _ _ _ _
 rw[if_neg h2,if_neg h2];exact Cb h x hl _ _
theorem Kr:∀(l:List Tr) (st:PS) (s:RS) (p i:Int),(∀q,q∈l→bM q)→uK st s→uK (iE st p i l) (mE s p i l)
 |[],st,s,p,i,_,h=>h
 |x::l,st,s,p,i,hk,h=>by
  rw[iE,mE];exact Kr l _ _ _ _ (fun q hq=>hk q IW) (Vs h x (hk x qo) _ _)
theorem P7 {x:Tr}(h:eT x=5∨eT x=6):((fC x).err=0↔(mK x).err=0)∧(mK x).aN=(fC x).aN∧((fC x).err=0→(mK x).uses=(fC x).uses):=by
 have hall:=(xD h).2;have h0:uK st0 Me:=⟨rfl,rfl,by simp[st0,Me],⟨rfl,rfl⟩,rfl,rfl,rfl⟩;have h1:=Kr x.f3 st0 Me 1 0 (fun q hq=>(hall q hq).1) h0;have h2:gJ (iE st0 1 0 x.f3) en0 (mE Me 1 0 x.f3):=⟨h1.aN,h1.ex,by rw[h1.aT];rfl,by rw[h1.this];rfl,h1.err,fun _=>by rw[h1.uses.1,h1.uses.2]⟩;have h3:=xL x.f3 en0 _ _ 1 (fun q hq=>(hall q hq).1) (fun q hq=>(hall q hq).2) h2 (by rw[h1.ins];rfl);exact⟨h3.err,h3.aN,h3.uses⟩
end Go.Proofs.YtldgmneijipbjaaGreatDoor.H
