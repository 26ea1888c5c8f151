import Derived.Test.YtldgmneijipbjaaGreatDoorBY1
import Derived.Test.YtldgmneijipbjaaGreatDoorBG1
import Derived.Test.YtldgmneijipbjaaGreatDoorBMac
set_option linter.unusedVariables false
set_option linter.unusedSimpArgs false
set_option maxRecDepth 100000
set_option maxHeartbeats 16000000
namespace Go.Proofs.YtldgmneijipbjaaGreatDoor.H
open Go.RowKit Go.Maps Go.WideMaps Go.Shelf Go.Proofs.YtldgmneijipbjaaGreatDoorW.PrintWords Go.Proofs.YtldgmneijipbjaaGreatDoorW.PrintLast Go.Proofs.YtldgmneijipbjaaGreatDoorW.PrintMore
open PScopeOwn
abbrev K5:Kd (List Value):=Kd.raw 5
abbrev K1:Kd (List Value):=Kd.raw 1
def dA.cs (t:dA):List Value:=[.string t.name,.int .i64 t.kind,.int .i64 t.pos,.int .i64 t.item,.bool t.cst]
def dA.val (t:dA):Value:= .agg #[.string t.name,.int .i64 t.kind,.int .i64 t.pos,.int .i64 t.item,.bool t.cst]
def bV.cs (t:bV):List Value:=[.int .i64 t.pos,.int .i64 t.kind,.int .i64 t.decl,.string t.name,.bool t.typed]
def dQ.val (t:dQ):Value:= .agg #[.int .i64 t.pos,.int .i64 t.kind,.bool t.free]
def kS (l:List dA)(s:ByteArray):Option Value:=(bO l s).map dA.val
def n_ (l:List dQ)(s:ByteArray):Option Value:=(kP l s).map dQ.val
structure FM where
 g:Nat
 mt:Nat
 mg:Nat
 vl:Value
 vu:Value
 vs:Value
 ms:List Nat
def FM.own (m:FM)(k:Nat):Prop:=k=m.g∨k=m.mt∨k=m.mg∨bQ m.vl k∨bQ m.vu k∨bQ m.vs k∨k∈m.ms
def FM.cells (m:FM)(st:PS)(en:En):Array Value:=#[.map (some m.mt),m.vl,m.vu,.map (some m.mg),m.vs,.int .i64 st.err,.int .i64 st.bad,.bool en.this,.bool en.back]
def FM.row (m:FM):List (List Value):=m.ms.map (fun b=>[Value.map (some b)])
structure Fin (D:Nat)(w:World)(m:FM)(st:PS)(en:En):Prop where
 blk:w.heap[m.g]?=some (.cells (m.cells st en) 56 (0,0))
 mt:dY w m.mt st.aN.length (kS st.aN) st.aN.length
 mg:∃c,dY w m.mg st.given.length (cntF st.given) c
 vl:K5.R 43 w D (fun k=>D≤k) m.vl (st.aN.map dA.cs)
 vu:K5.R 37 w D (fun k=>D≤k) m.vu (st.uses.map bV.cs)
 vs:K1.R 97 w D (fun k=>D≤k) m.vs m.row
 len:m.ms.length=en.fP.length
 sc:∀(i b:Nat) (l:List dQ),m.ms[i]?=some b→en.fP[i]?=some l→∃c,dY w b l.length (n_ l) c
 lg:D≤m.g
 lt:D≤m.mt
 lm:D≤m.mg
 ls:∀b,b∈m.ms→D≤b
 ne:(m.mt::m.mg::m.ms).Nodup
section
variable {D:Nat} {w w':World} {m:FM} {st st':PS} {en en':En}
theorem bW {d:Kd (List Value)}(hE:d.E=[]){e:Nat}{v:Value}{xs:List (List Value)}(h:d.R e w D (fun k=>D≤k) v xs)(hk:∀k,bQ v k→w'.heap[k]?=w.heap[k]?):d.R e w' D (fun k=>D≤k) v xs:=
 Kd.mM (Kd.Ms (Kd.aaK hE h) (fun k q=>hk k q.symm)) (fun k q=>Kd.pW h k q.symm)
theorem Fin.low (h:Fin D w m st en)(k:Nat)(hk:m.own k):D≤k:=by
 rcases hk with rfl|rfl|rfl|hk|hk|hk|hk
 ·exact h.lg
 ·exact h.lt
 ·exact h.lm
 ·exact Kd.pW h.vl k hk
 ·exact Kd.pW h.vu k hk
 ·exact Kd.pW h.vs k hk
 ·exact h.ls k hk
theorem Fin.Vf (h:Fin D w m st en){b:Nat}(hb:b∈m.ms):∃(i:Nat) (l:List dQ) (c:Nat),m.ms[i]?=some b∧en.fP[i]?=some l∧dY w b l.length (n_ l) c:=by
 obtain⟨i,hi⟩:=List.mem_iff_getElem?.1 hb;have hlt:i<en.fP.length:=by rw[←h.len];exact(List.getElem?_eq_some_iff.1 hi).1
 obtain⟨c,q⟩:=h.sc i b _ hi (List.getElem?_eq_getElem hlt);exact⟨i,_,c,hi,List.getElem?_eq_getElem hlt,q⟩
theorem Fin.hi (h:Fin D w m st en)(k:Nat)(hk:m.own k):k<w.heap.size:=by
 rcases hk with rfl|rfl|rfl|hk|hk|hk|hk
 ·exact ay h.blk
 ·exact h.mt.lt
 ·obtain⟨c,q⟩:=h.mg;exact q.lt
 ·exact Kd.vF h.vl k hk
 ·exact Kd.vF h.vu k hk
 ·exact Kd.vF h.vs k hk
 ·obtain⟨i,l,c,-,-,q⟩:=h.Vf hk;exact q.lt
theorem Fin.keep (h:Fin D w m st en)(hk:∀k,m.own k→w'.heap[k]?=w.heap[k]?):Fin D w' m st en where
 blk:=(hk _ (.inl rfl)).trans h.blk
 mt:=h.mt.same (hk _ (.inr (.inl rfl)))
 mg:=by obtain⟨c,q⟩:=h.mg;exact⟨c,q.same (hk _ (.inr (.inr (.inl rfl))))⟩
 vl:=bW rfl h.vl (fun k q=>hk k (.inr (.inr (.inr (.inl q)))))
 vu:=bW rfl h.vu (fun k q=>hk k (.inr (.inr (.inr (.inr (.inl q))))))
 vs:=bW rfl h.vs (fun k q=>hk k (.inr (.inr (.inr (.inr (.inr (.inl q)))))))
 len:=h.len
 sc:=fun i b l hb hl=>by obtain⟨c,q⟩:=h.sc i b l hb hl;exact⟨c,q.same (hk _ (.inr (.inr (.inr (.inr (.inr (.inr (List.mem_of_getElem? hb))))))))⟩
 lg:=h.lg
 lt:=h.lt
 lm:=h.lm
 ls:=h.ls
 ne:=h.ne
theorem Fin.below (h:Fin D w m st en)(hb:Below w.heap.size w w'):Fin D w' m st en:=h.keep (fun k hk=>hb.block k (h.hi k hk))
theorem Fin.fr (h:Fin D w m st en){S:Nat→Prop}(hf:Fr S w w')(hn:∀k,m.own k→¬S k):Fin D w' m st en:=h.keep (fun k hk=>hf.block k (h.hi k hk) (hn k hk))
theorem Fin.qj (h:Fin D w m st en):m.g≠m.mt∧m.g≠m.mg∧¬bQ m.vl m.g∧¬bQ m.vu m.g∧¬bQ m.vs m.g∧¬m.g∈m.ms:=by
 have hb:=h.blk;refine⟨fun e=>?_,fun e=>?_,fun e=>?_,fun e=>?_,fun e=>?_,fun e=>?_⟩
 ·obtain⟨es,k,q⟩:=h.mt.blk;rw[←e,hb]at q;cases q
 ·obtain⟨c,q⟩:=h.mg;obtain⟨es,k,q⟩:=q.blk;rw[←e,hb]at q;cases q
 ·exact adR
 ·exact adD
 ·obtain⟨cs,q⟩:=Kd.dO h.vs _ e;rw[hb]at q;cases q
 ·obtain⟨i,l,c,-,-,q⟩:=h.Vf e;obtain⟨es,k,q⟩:=q.blk;rw[hb]at q;cases q
theorem Fin.put (h:Fin D w m st en)(hb:w'.heap[m.g]?=some (.cells (m.cells st' en') 56 (0,0)))(hk:∀k,k≠m.g→m.own k→w'.heap[k]?=w.heap[k]?)(e1:st'.aN=st.aN)(e2:st'.given=st.given)(e3:st'.uses=st.uses)(e4:en'.fP=en.fP):Fin D w' m st' en':=by
 obtain⟨n1,n2,n3,n4,n5,n6⟩:=h.qj;refine⟨hb,?_,?_,?_,?_,?_,by rw[e4];exact h.len,?_,h.lg,h.lt,h.lm,h.ls,h.ne⟩
 ·rw[e1];exact h.mt.same (hk _ n1.symm (.inr (.inl rfl)))
 ·rw[e2];obtain⟨c,q⟩:=h.mg;exact⟨c,q.same (hk _ n2.symm (.inr (.inr (.inl rfl))))⟩
 ·rw[e1];exact bW rfl h.vl (fun k q=>hk k (fun e=>n3 (e▸q)) (.inr (.inr (.inr (.inl q)))))
 ·rw[e3];exact bW rfl h.vu (fun k q=>hk k (fun e=>n4 (e▸q)) (.inr (.inr (.inr (.inr (.inl q))))))
 ·exact bW rfl h.vs (fun k q=>hk k (fun e=>n5 (e▸q)) (.inr (.inr (.inr (.inr (.inr (.inl q)))))))
 ·rw[e4]
  intro i b l hb2 hl;obtain⟨c,q⟩:=h.sc i b l hb2 hl;exact⟨c,q.same (hk _ (fun e=>n6 (e▸List.mem_of_getElem? hb2)) (.inr (.inr (.inr (.inr (.inr (.inr (List.mem_of_getElem? hb2))))))))⟩
end
theorem PS.FR (st:PS)(e p:Int):st.fail e p=if(st.err==0||(decide (p<st.bad)||(p==st.bad&&decide (e<st.err))))then {st with err:=e,bad:=p}else st:=by
 unfold PS.fail
 congr 1
 simp
theorem jf {D:Nat}{w:World}{m:FM}{st:PS}{en:En}(h:Fin D w m st en)(e p:Int):
  Calls Tryz.prog 77 #[.pointer (some ⟨m.g,0,none⟩),.int .i64 e,.int .i64 p] w fun r w'=>r= .returned (.tuple #[])∧Fin D w' m (st.fail e p) en∧Fr (fun k=>k=m.g) w w':=by
 have c5:w.cell? ⟨m.g,5,none⟩=some (.int .i64 st.err):=(aj h.blk 5).trans rfl;have c6:w.cell? ⟨m.g,6,none⟩=some (.int .i64 st.bad):=(aj h.blk 6).trans rfl;have f5:=aQ h.blk 5;have f6:=aQ h.blk 6;have H:=hide h;obtain⟨z0,hz0⟩:∃z,(st.err==0)=z:=⟨_,rfl⟩;obtain⟨z1,hz1⟩:∃z,decide (p<st.bad)=z:=⟨_,rfl⟩;obtain⟨z2,hz2⟩:∃z,(p==st.bad)=z:=⟨_,rfl⟩;obtain⟨z3,hz3⟩:∃z,decide (e<st.err)=z:=⟨_,rfl⟩;have HP:=hide (show st.fail e p=if(z0||(z1||(z2&&z3)))then {st with err:=e,bad:=p}else st from by rw[PS.FR,hz0,hz1,hz2,hz3]);obtain⟨r,hr⟩:∃r,st.fail e p=r:=⟨_,rfl⟩;have HR:=hide hr;rw[hr];have hs1:=bT (cs':=#[.map (some m.mt),m.vl,m.vu,.map (some m.mg),m.vs,.int .i64 e,.int .i64 st.bad,.bool en.this,.bool en.back]) h.blk 5 (.int .i64 e) rfl;have hs2:=bT (cs':=m.cells {st with err:=e,bad:=p} en) hs1 6 (.int .i64 p) rfl
 have HS:=hide (show Fin D ((w.setCell ⟨m.g,5,none⟩ (.int .i64 e)).setCell ⟨m.g,6,none⟩ (.int .i64 p)) m {st with err:=e,bad:=p} en∧Fr (fun k=>k=m.g) w ((w.setCell ⟨m.g,5,none⟩ (.int .i64 e)).setCell ⟨m.g,6,none⟩ (.int .i64 p))from
  ⟨h.put hs2 (fun k hk _=>(Below.heap_setCell _ _ _ _ hk).trans (Below.heap_setCell _ _ _ _ hk)) rfl rfl rfl rfl,Fr.setCell (p:=⟨m.g,6,none⟩) (Fr.setCell (p:=⟨m.g,5,none⟩) (Fr.refl (fun k=>k=m.g) w) (.inl rfl) _) (.inl rfl) _⟩)
 clear h hr hs1 hs2;go_enter Tryz.func77,Tryz.ntmps77;go_wp2
 all_goals
  go_end0;refine⟨rfl,?_⟩;rw[←HR.out,HP.out]
  first|(rw[if_pos MK];exact HS.out)|(rw[if_neg MK];exact⟨H.out,Fr.refl _ _⟩)
section
variable {D:Nat} {w w':World} {m:FM} {st st':PS} {en en':En}
theorem Fin.mne (h:Fin D w m st en):m.mt≠m.mg∧¬m.mt∈m.ms∧¬m.mg∈m.ms:=by
 have h1:=h.ne;simp only[List.nodup_cons,List.mem_cons,not_or]at h1;exact⟨h1.1.1,h1.1.2,h1.2.1⟩
theorem Fin.qM (h:Fin D w m st en){b:Nat}(hb:∃es k,w.heap[b]?=some (.map es k)):¬bQ m.vl b∧¬bQ m.vu b∧¬bQ m.vs b:=by
 obtain⟨es,k,hb⟩:=hb;refine⟨fun e=>?_,fun e=>?_,fun e=>?_⟩
 ·exact adR
 ·exact adD
 ·obtain⟨cs,q⟩:=Kd.dO h.vs _ e;rw[hb]at q;cases q
theorem Fin.given (h:Fin D w m st en){s:ByteArray}{c:Nat}(hm:dY w' m.mg (st.given.length+1) (cntF (st.given++[s])) c)(hg:w.grownBy w' (some m.mg)):Fin D w' m {st with given:=st.given++[s]} en:=by
 obtain⟨n1,n2,n3,n4,n5,n6⟩:=h.qj;obtain⟨c0,q0⟩:=h.mg;obtain⟨r1,r2,r3⟩:=h.qM q0.blk;obtain⟨m1,m2,m3⟩:=h.mne;have hk:∀k,k≠m.mg→m.own k→w'.heap[k]?=w.heap[k]?:=fun k hk ho=>hg.block k (h.hi k ho) MU;refine⟨(hk _ n2 (.inl rfl)).trans h.blk,h.mt.same (hk _ m1 (.inr (.inl rfl))),⟨c,by rw[List.length_append];exact hm⟩,?_,?_,?_,h.len,fun i b l hb hl=>?_,h.lg,h.lt,h.lm,h.ls,h.ne⟩
 ·exact bW rfl h.vl (fun k q=>hk k (fun e=>r1 (e▸q)) (.inr (.inr (.inr (.inl q)))))
 ·exact bW rfl h.vu (fun k q=>hk k (fun e=>r2 (e▸q)) (.inr (.inr (.inr (.inr (.inl q))))))
 ·exact Vl
 ·obtain⟨c,q⟩:=h.sc i b l hb hl
  exact⟨c,q.same (hk _ (fun e=>m3 (e▸List.mem_of_getElem? hb)) (.inr (.inr (.inr (.inr (.inr (.inr (List.mem_of_getElem? hb))))))))⟩
end
theorem Fr.tK {w w':World}{b:Nat}(h:w.grownBy w' (some b)):Fr (fun k=>k=b) w w':=⟨h.os,h.tape,h.output,h.size,fun k hk hn=>h.block k hk (by simpa using hn)⟩
theorem afy (l:List ByteArray)(s:ByteArray):decide ((1:Int)<(xk l s:Nat)+1)=jE l s:=by
 rw[Bool.eq_iff_iff,kV,←Fw];simp only[decide_eq_true_eq];omega
theorem uI {D:Nat}{w:World}{m:FM}{st:PS}{en:En}(h:Fin D w m st en)(s:ByteArray)(p:Int)(hs:s.size≤1099511627776)(hn:st.given.length≤1099511627776):
  Calls Tryz.prog 38 #[.pointer (some ⟨m.g,0,none⟩),.string s,.int .i64 p] w fun r w'=>r= .returned (.tuple #[])∧Fin D w' m (st.give s p) en∧Fr (fun k=>k=m.g∨k=m.mg) w w':=by
 have c3:w.cell? ⟨m.g,3,none⟩=some (.map (some m.mg)):=(aj h.blk 3).trans rfl;have sF:=hide (show s.size≤maxLen from aqT);obtain⟨cg,hcg⟩:=h.mg;obtain⟨n,hnn⟩:∃n,st.given.length=n:=⟨_,rfl⟩;obtain⟨cc,hcc⟩:∃cc,xk st.given s=cc:=⟨_,rfl⟩;have hcn:cc≤n:=by rw[←hcc,←hnn];exact UD _ _
 have hnb:n≤1099511627776:=by rw[←hnn];exact hn
 have H:=hide h;have HCG:=hide hcg;have HN:=hide hnn;have HCC:=hide hcc;obtain⟨z,hz⟩:∃z,decide ((1:Int)<(cc:Nat)+1)=z:=⟨_,rfl⟩;have HZ:=hide (show jE st.given s=z from by rw[←hz,←hcc,afy]);have HNE:=hide h.qj;obtain⟨r,hr⟩:∃r,st.give s p=r:=⟨_,rfl⟩;have HR:=hide (show r=if z=true then({st with given:=st.given++[s]}:PS).fail 90 p else {st with given:=st.given++[s]}from by rw[←hr,←HZ.out];unfold PS.give;rfl);rw[hr];rw[hnn]at HCG;clear h hcg hr hnn hcc hn;go_enter Tryz.func38,Tryz.ntmps38;go_wp2_with (first|(at_lookup;refine oJ _ rfl _ _ 53 rfl 3 Tryz.underlying53 (BF _) m.mg n cg (cntF st.given) rfl HCG.out s rfl sF.out (.int .i64 (cc:Nat)) (by rw[BD,HCC.out]) ?_)|(at_mapUpdate;refine qd _ rfl _ _ _ 53 rfl 3 Tryz.underlying53 m.mg n cg (cntF st.given) rfl HCG.out aqT s rfl sF.out _ rfl ?_;intro w2 hm2 hg2;have HF2:=hide (H.out.given (s:=s) (by rw[HN.out,←D7,HCC.out];exact hm2) hg2);have d3:=hg2.cell c3 (by simpa using HNE.out.2.1);have HG2:=hide hg2;clear hm2 hg2)|(at_lookup;obtain⟨c2,q2⟩:=HF2.out.mg;have Mf:=hide q2;refine oJ _ rfl _ _ 53 rfl 3 Tryz.underlying53 (BF _) m.mg _ c2 (cntF (st.given++[s])) rfl Mf.out s rfl sF.out (.int .i64 ((cc:Nat)+1)) (by rw[BD,JY,if_pos rfl,HCC.out];rfl) ?_)|(go_at_call 77;refine(jf HF2.out 90 p).mono ?_;rintro e w3 ⟨rfl,hf3,hr3⟩;have zP:=hide (And.intro hf3 hr3);clear hf3 hr3))
 all_goals go_end0
 ·exact⟨rfl,by rw[HR.out,if_pos MK];exact zP.out.1,((Fr.tK HG2.out).mono (fun k hk=> .inr hk)).trans zP.out.2 (fun k hk=> .inl (.inl hk))⟩
 ·exact⟨rfl,by rw[HR.out,if_neg MK];exact HF2.out,(Fr.tK HG2.out).mono (fun k hk=> .inr hk)⟩
end Go.Proofs.YtldgmneijipbjaaGreatDoor.H
