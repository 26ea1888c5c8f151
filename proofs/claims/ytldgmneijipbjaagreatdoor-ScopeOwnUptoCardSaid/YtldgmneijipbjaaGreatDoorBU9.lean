import Derived.Test.YtldgmneijipbjaaGreatDoorBU8
import Derived.Test.YtldgmneijipbjaaGreatDoorBF0
import Derived.Test.YtldgmneijipbjaaGreatDoorBMac
set_option linter.unusedVariables false
set_option linter.unusedSimpArgs false
set_option maxRecDepth 100000
set_option maxHeartbeats 16000000
namespace Go.Proofs.YtldgmneijipbjaaGreatDoor.H
open Go.RowKit Go.Shelf Go.Maps Go.WideMaps Go.Proofs.YtldgmneijipbjaaGreatDoorW.PrintWords Go.Proofs.YtldgmneijipbjaaGreatDoorW.PrintLast Go.Proofs.YtldgmneijipbjaaGreatDoorW.PrintMore
open PScopeOwn
theorem Nf (a b c d e:Value)(w:World):Sem.run Tryz.prog (Instr.field 43 (.agg #[a,b,c,d,e]) 1) w= .ok b w:=dL
attribute [local go_sem] Nf
theorem qO (w:World){ops:Array Oper}{rest:List Oper}{o:Oper}{a:Act}{Q:Exit→Act→World→Prop}(hw:Region.wanted o (yielded ops a.tmps)=true)(m x:Operand)(t:TypeId)(hop:o.op=Op.lookup t m x false)(e:TypeId)(ht:Tryz.prog.underlying t=some (.map 9 e)){z:Value}(hz:(zeroValue e).run Tryz.prog w= .ok z w)(b n c:Nat)(f:ByteArray→Option Value)
  (hm:a.eval m= .map (some b))(h:dY w b n f c)(s:ByteArray)(hx:a.eval x= .string s)(hs:s.size≤maxLen)(v:Value)(hv:(f s).getD z=v)(hK:wpList Tryz.prog ops Q rest (a.put o.dst v) w):wpList Tryz.prog ops Q (o::rest) a w:=by
 subst hv;refine BigFrame.wpList_want hw fun K' hK'=>?_;exact adp
theorem Em (st:PS)(s:ByteArray):∃tn tk tp ti tc,(kS st.aN s).getD Ab= .agg #[.string tn,.int .i64 tk,.int .i64 tp,.int .i64 ti,.bool tc]∧(tk==46)=iW st s:=by
 unfold kS iW
 cases bO st.aN s with
 |none=>exact⟨_,_,_,_,_,rfl,rfl⟩
 |some t=>exact⟨_,_,_,_,_,rfl,rfl⟩
theorem Ng {D:Nat}{w:World}{m:FM}{st:PS}{en:En}(h:Fin D w m st en)(s:ByteArray)(pos:Int)(hs:s.size≤1099511627776)(hms:m.ms.length≤1099511627776)(hP:gH st en s=none):
  Calls Tryz.prog 78 #[.pointer (some ⟨m.g,0,none⟩),.string s,.int .i64 pos] w fun r w'=>r= .returned (.tuple #[])∧Fin D w' m (st.fail 91 pos) en∧Fr (fun k=>k=m.g) w w':=by
 have HS:=hide (xM h s hs hms);have hV:nT st en s=(.agg #[.int .i64 0,.int .i64 0,.int .i64 0,.string ⟨#[]⟩,.bool false],false,false):=by unfold nT;rw[hP]
 rw[hV]at HS;have H:=hide h;clear h hV hP;go_enter Tryz.func78,Tryz.ntmps78;go_wp2_with (first|(go_at_call 79;refine HS.out.mono ?_;rintro e w2 ⟨rfl,h2⟩;have HB:=hide h2;clear h2)|(go_at_call 77;refine(jf (H.out.below (au HB.out _)) 91 pos).mono ?_;rintro e w3 ⟨rfl,hf3,hr3⟩;have zP:=hide (And.intro hf3 hr3);clear hf3 hr3))
 ((try simp only[Exit.inBlock,Exit.then]);refine bodyPost_ret (results_none rfl _ _ _) rfl ?_)
 exact⟨rfl,zP.out.1,(Fr.alloc (Fr.of_below HB.out) _).trans zP.out.2 (fun k hk=> .inl hk)⟩
theorem VA {D:Nat}{w:World}{m:FM}{st:PS}{en:En}(h:Fin D w m st en)(s:ByteArray)(pos:Int)(hs:s.size≤1099511627776)(hms:m.ms.length≤1099511627776)(hn:st.uses.length≤1099511627776)(k d:Int)(f:Bool)(hP:gH st en s=some (k,d,f))
  (hk:(k==3)=true)(hza:iW st s=true):
  Calls Tryz.prog 78 #[.pointer (some ⟨m.g,0,none⟩),.string s,.int .i64 pos] w fun r w'=>r= .returned (.tuple #[])∧Fin D w' m (st.fail 91 pos) en∧Fr (fun k=>k=m.g) w w':=by
 have HS:=hide (xM h s hs hms);have hV:nT st en s=(.agg #[.int .i64 0,.int .i64 k,.int .i64 d,.string s,.bool false],true,f):=by unfold nT;rw[hP]
 rw[hV]at HS;obtain⟨tn,tk,tp,ti,tc,hT,h46⟩:=Em st s;rw[hza]at h46;have HT:=hide hT;have H:=hide h;have sF:=hide (show s.size≤maxLen from aqT);clear h hV hP hT hza;go_enter Tryz.func78,Tryz.ntmps78;go_wp2_with (go_at_call 79;refine Aside0.out ?_);refine⟨?_⟩;refine HS.out.mono ?_;rintro e w2 ⟨rfl,h2⟩;have HB:=hide h2;clear h2;have hB3:Below w.heap.size w (w2.alloc (.cells #[.int .i64 0,.int .i64 k,.int .i64 d,.string s,.bool false] 37)):=au HB.out _;have hg3:(w2.alloc (.cells #[.int .i64 0,.int .i64 k,.int .i64 d,.string s,.bool false] 37)).heap[m.g]?=some (.cells (m.cells st en) 56 (0,0)):=(hB3.block _ (H.out.hi _ (.inl rfl))).trans H.out.blk;have g0:(w2.alloc (.cells #[.int .i64 0,.int .i64 k,.int .i64 d,.string s,.bool false] 37)).cell? ⟨m.g,0,none⟩=some (.map (some m.mt)):=(aj hg3 0).trans rfl;have yA:=hide (H.out.mt.same (hB3.block _ H.out.mt.lt));have HB3:=hide hB3;clear hB3 hg3;go_wp2_with (first|(at_lookup;refine qO _ Nr _ _ 52 rfl 43 Tryz.underlying52 (kT _) m.mt _ _ (kS st.aN) rfl yA.out s rfl sF.out (.agg #[.string tn,.int .i64 tk,.int .i64 tp,.int .i64 ti,.bool tc]) (by rw[HT.out]) ?_)|(go_at_call 77;refine(jf (H.out.keep (fun k hk=>HB3.out.block k (H.out.hi k hk))) 91 pos).mono ?_;rintro e w3 ⟨rfl,hf3,hr3⟩;have zP:=hide (And.intro hf3 hr3);clear hf3 hr3))
 ((try simp only[Exit.inBlock,Exit.then]);refine bodyPost_ret (results_none rfl _ _ _) rfl ?_)
 exact⟨rfl,zP.out.1,(Fr.of_below HB3.out).trans zP.out.2 (fun k hk=> .inl hk)⟩
theorem VB {D:Nat}{w:World}{m:FM}{st:PS}{en:En}(h:Fin D w m st en)(s:ByteArray)(pos:Int)(hs:s.size≤1099511627776)(hms:m.ms.length≤1099511627776)(hn:st.uses.length≤1099511627776)(k d:Int)(f:Bool)(hP:gH st en s=some (k,d,f))
  (hk:(k==3)=true)(hza:iW st s=false):
  Calls Tryz.prog 78 #[.pointer (some ⟨m.g,0,none⟩),.string s,.int .i64 pos] w fun r w'=>r= .returned (.tuple #[])∧zQ D m {st with uses:=st.uses++[(⟨pos,k,d,s,false⟩:bV)]} en w w':=by
 exact afG
theorem VD {D:Nat}{w:World}{m:FM}{st:PS}{en:En}(h:Fin D w m st en)(s:ByteArray)(pos:Int)(hs:s.size≤1099511627776)(hms:m.ms.length≤1099511627776)(hn:st.uses.length≤1099511627776)(k d:Int)(f:Bool)(hP:gH st en s=some (k,d,f))
  (hk:(k==3)=false)(hza:iW st s=true):
  Calls Tryz.prog 78 #[.pointer (some ⟨m.g,0,none⟩),.string s,.int .i64 pos] w fun r w'=>r= .returned (.tuple #[])∧zQ D m {st with uses:=st.uses++[(⟨pos,k,d,s,false⟩:bV)]} en w w':=by
 exact afG
theorem VE {D:Nat}{w:World}{m:FM}{st:PS}{en:En}(h:Fin D w m st en)(s:ByteArray)(pos:Int)(hs:s.size≤1099511627776)(hms:m.ms.length≤1099511627776)(hn:st.uses.length≤1099511627776)(k d:Int)(f:Bool)(hP:gH st en s=some (k,d,f))
  (hk:(k==3)=false)(hza:iW st s=false):
  Calls Tryz.prog 78 #[.pointer (some ⟨m.g,0,none⟩),.string s,.int .i64 pos] w fun r w'=>r= .returned (.tuple #[])∧zQ D m {st with uses:=st.uses++[(⟨pos,k,d,s,false⟩:bV)]} en w w':=by
 exact afG
theorem Eo {D:Nat}{w:World}{m:FM}{st:PS}{en:En}(h:Fin D w m st en)(s:ByteArray)(pos:Int)(hs:s.size≤1099511627776)(hms:m.ms.length≤1099511627776)(hn:st.uses.length≤1099511627776):
  Calls Tryz.prog 78 #[.pointer (some ⟨m.g,0,none⟩),.string s,.int .i64 pos] w fun r w'=>r= .returned (.tuple #[])∧zQ D m (st.value en s pos) en w w':=by
 cases hP:gH st en s with
 |none=>
  rw[show st.value en s pos=st.fail 91 pos from by unfold PS.value;rw[hP]];refine(Ng h s pos hs hms hP).mono ?_;exact aee
 |some r=>
  obtain⟨k,d,f⟩:=r;have e:st.value en s pos=if k=3∧iW st s=true then st.fail 91 pos else {st with uses:=st.uses++[⟨pos,k,d,s,false⟩]}:=by unfold PS.value;rw[hP]
  rw[e]
  cases hk:(k==3)<;>cases hz:iW st s
  ·rw[if_neg qo];exact VE h s pos hs hms hn k d f hP hk hz
  ·rw[if_neg MU];exact VD h s pos hs hms hn k d f hP hk hz
  ·rw[if_neg qo];exact VB h s pos hs hms hn k d f hP hk hz
  ·rw[if_pos ⟨MU,rfl⟩]
   refine(VA h s pos hs hms hn k d f hP hk hz).mono ?_;exact aee
theorem Nh (l:List dQ)(d:dQ)(s:ByteArray):kP (l++[d]) s=if d.name=s then some d else kP l s:=by
 unfold kP;rw[List.reverse_append,List.reverse_singleton,List.singleton_append,List.find?_cons];by_cases e:d.name=s<;>simp[e]
theorem R6 (l:List dQ)(d:dQ):(fun s=>if s=d.name then some d.val else n_ l s)=n_ (l++[d]):=by
 funext s
 unfold n_;rw[Nh];by_cases e:s=d.name
 ·rw[if_pos e,if_pos e.symm];rfl
 ·rw[if_neg e,if_neg (Ne.symm e)]
section
variable {D:Nat} {w w':World} {m:FM} {st st':PS} {en en':En}
theorem Fin.anM (h:Fin D w m st en){ms0:List Nat}{b c:Nat}{wD:List (List dQ)}{sc sc':List dQ}{th bk:Bool}(hms:m.ms=ms0++[b])(hen:en=⟨wD++[sc],th,bk⟩)(hm:dY w' b sc'.length (n_ sc') c)(hg:w.grownBy w' (some b)):Fin D w' m st ⟨wD++[sc'],th,bk⟩:=by
 subst hen;have hmem:b∈m.ms:=by rw[hms];simp
 obtain⟨n1,n2,n3,n4,n5,n6⟩:=h.qj;obtain⟨m1,m2,m3⟩:=h.mne;obtain⟨i0,l0,c0,-,-,q0⟩:=h.Vf hmem;obtain⟨r1,r2,r3⟩:=h.qM q0.blk;have hk:∀k,k≠b→m.own k→w'.heap[k]?=w.heap[k]?:=fun k hk ho=>hg.block k (h.hi k ho) MU;have hlen:=h.len;rw[hms]at hlen;simp only[List.length_append,List.length_singleton]at hlen;refine⟨(hk m.g (fun e=>n6 (by rw[e];exact hmem)) (.inl rfl)).trans h.blk,h.mt.same (hk m.mt (fun e=>m2 (by rw[e];exact hmem)) (.inr (.inl rfl))),?_,?_,?_,?_,by rw[hms];simp;omega,fun i b2 l hb hl=>?_,h.lg,h.lt,h.lm,h.ls,h.ne⟩
 ·obtain⟨c,q⟩:=h.mg;exact⟨c,q.same (hk m.mg (fun e=>m3 (by rw[e];exact hmem)) (.inr (.inr (.inl rfl))))⟩
 ·exact bW rfl h.vl (fun k q=>hk k (fun e=>r1 (e▸q)) (.inr (.inr (.inr (.inl q)))))
 ·exact bW rfl h.vu (fun k q=>hk k (fun e=>r2 (e▸q)) (.inr (.inr (.inr (.inr (.inl q))))))
 ·exact Vl
 ·have hb':=hb
  rw[hms]at hb;by_cases hi:i<ms0.length
  ·rw[List.getElem?_append_left hi]at hb
   have hl':(wD++[sc])[i]?=some l:=by
    rw[List.getElem?_append_left aG];have hl2:(wD++[sc'])[i]?=some l:=hl;rw[List.getElem?_append_left aG]at hl2;exact hl2
   obtain⟨c,q⟩:=h.sc i b2 l hb' hl'
   have hne:b2≠b:=fun e=>by
    have hnd:=h.ne;rw[hms]at hnd;have h2:=(List.nodup_cons.1 (List.nodup_cons.1 hnd).2).2;rw[List.nodup_append]at h2;exact h2.2.2 b2 (List.mem_of_getElem? hb) b qo e
   exact⟨c,q.same (hk _ hne (.inr (.inr (.inr (.inr (.inr (.inr (List.mem_of_getElem? hb'))))))))⟩
  ·have hi2:i=ms0.length:=by
    have:=(List.getElem?_eq_some_iff.1 hb).1;simp at this;omega
   subst hi2;simp at hb;subst hb;have hl2:(wD++[sc'])[ms0.length]?=some l:=hl;rw[show ms0.length=wD.length from aG]at hl2;simp at hl2;subst hl2;exact⟨_,hm⟩
end
structure Bx (w:World)(g b bs bf:Nat):Prop where
 s:w.heap[bs]?=some (.cells #[.map (some b)] 97 (0,0))
 f:w.heap[bf]?=some (.cells #[.pointer (some ⟨g,0,none⟩)] 51 (0,0))
theorem Bx.fr {w w':World}{g b bs bf:Nat}{S:Nat→Prop}(h:Bx w g b bs bf)(hf:Fr S w w')(h1:¬S bs)(h2:¬S bf):Bx w' g b bs bf:=⟨(hf.block _ (ay h.s) h1).trans h.s,(hf.block _ (ay h.f) h2).trans h.f⟩
theorem Bx.below {w w':World}{g b bs bf:Nat}(h:Bx w g b bs bf)(hb:Below w.heap.size w w'):Bx w' g b bs bf:=⟨(hb.block _ (ay h.s)).trans h.s,(hb.block _ (ay h.f)).trans h.f⟩
theorem uM {D:Nat}{w:World}{m:FM}{st:PS}{wD:List (List dQ)}{sc:List dQ}{th bk:Bool}(h:Fin D w m st ⟨wD++[sc],th,bk⟩){ms0:List Nat}{b bs bf:Nat}(hms:m.ms=ms0++[b])(hbx:Bx w m.g b bs bf)
  (x:Tr)(A:Option Addr)(c:Nat)(pos:Int)(free:Bool)(hs:x.f1.size≤1099511627776)(hn:sc.length≤1099511627776):
  Calls Tryz.prog 123 #[nd x A c,.int .i64 pos,.bool free,.pointer (some ⟨bs,0,none⟩),.pointer (some ⟨bf,0,none⟩)] w fun r w'=>r= .returned (.tuple #[])∧Fin D w' m (decP (st,sc) x pos free).1 ⟨wD++[(decP (st,sc) x pos free).2],th,bk⟩∧Fr (fun k=>k=m.g∨k=b) w w':=by
 have hmem:b∈m.ms:=by rw[hms];simp
 have hlen:=h.len
 have hmap:∃cm,dY w b sc.length (n_ sc) cm:=by
  rw[hms]at hlen;simp at hlen;exact h.sc ms0.length b sc (by rw[hms];simp) (by show(wD++[sc])[ms0.length]?=_;rw[hlen];simp)
 obtain⟨cm,hmap⟩:=hmap;obtain⟨n,hnn⟩:∃n,sc.length=n:=⟨_,rfl⟩;have hnb:n≤1099511627776:=by rw[←hnn];exact hn
 have sF:=hide (show x.f1.size≤maxLen from aqT);obtain⟨n3,hn3⟩:∃k,x.f3.length=k:=⟨_,rfl⟩;have Kt:∀o,dY (w.alloc o) b n (n_ sc) cm:=fun o=>by rw[←hnn];exact hmap.same (Below.heap_alloc _ _ _ hmap.lt)
 have c0:∀o,(w.alloc o).cell? ⟨bs,0,none⟩=some (.map (some b)):=fun o=>bY _ ((aj hbx.s 0).trans rfl);have c1:∀o,(w.alloc o).cell? ⟨bf,0,none⟩=some (.pointer (some ⟨m.g,0,none⟩)):=fun o=>bY _ ((aj hbx.f 0).trans rfl);have HM:=hide Kt;have H:=hide h;have J4:=hide hnn;have Vt:=hide hms;obtain⟨r,hr⟩:∃r,decP (st,sc) x pos free=r:=⟨_,rfl⟩;rw[hr];have HR:=hide hr;unfold nd;rw[hn3]
 cases hd:kP sc x.f1 with
 |some d=>
  have HD:=hide (show n_ sc x.f1=some d.val from by unfold n_;rw[hd];rfl);have HE:=hide (show r=(st.fail 90 pos,sc)from by rw[←hr];unfold decP;rw[hd];rfl);have c1':∀o o2,((w.alloc o).alloc o2).cell? ⟨bf,0,none⟩=some (.pointer (some ⟨m.g,0,none⟩)):=fun o o2=>bY _ (c1 o);clear h hbx hmap Kt hr hd hms hlen hmem hnn hn hs;go_enter Tryz.func123,Tryz.ntmps123;go_wp2_with (first|(at_lookup;refine fE _ rfl _ _ 97 rfl 99 Tryz.underlying97 (xJ _) b _ _ (n_ sc) rfl (HM.out _) x.f1 rfl sF.out d.val rQ true rQ ?_;unfold dQ.val)|(go_at_call 77;refine(jf (H.out.below (au (au (Below.refl _ _) _) _)) 90 pos).mono ?_;rintro e w3 ⟨rfl,hf3,hr3⟩;have zP:=hide (And.intro hf3 hr3);clear hf3 hr3))
  ((try simp only[Exit.inBlock,Exit.then]);refine bodyPost_ret (results_none rfl _ _ _) rfl ?_)
  rw[HE.out];exact⟨rfl,zP.out.1,(Fr.alloc (Fr.alloc (Fr.refl _ w) _) _).trans zP.out.2 (fun k hk=> .inl (.inl hk))⟩
 |none=>
  have HD:=hide (show n_ sc x.f1=none from by unfold n_;rw[hd];rfl);have HE:=hide (show r=(st,sc++[⟨x.f1,pos,x.f0,free⟩])from by rw[←hr];unfold decP;rw[hd];rfl);have c0':∀o o2,((w.alloc o).alloc o2).cell? ⟨bs,0,none⟩=some (.map (some b)):=fun o o2=>bY _ (c0 o);have P9:=hide (fun o o2=>(Kt o).same (Below.heap_alloc (w.alloc o) o2 _ (Kt o).lt));clear h hbx hmap Kt hr hd hms hlen hmem hnn hn hs;go_enter Tryz.func123,Tryz.ntmps123;go_wp2_with (first|(at_lookup;refine fE _ rfl _ _ 97 rfl 99 Tryz.underlying97 (xJ _) b _ _ (n_ sc) rfl (HM.out _) x.f1 rfl sF.out afz rQ false rQ ?_)|(at_mapUpdate;refine qd _ rfl _ _ _ 97 rfl 99 Tryz.underlying97 b n cm (n_ sc) rfl (P9.out _ _) aqT x.f1 rfl sF.out _ rfl ?_;intro w2 hm2 hg2;have HMP:=hide hm2;have HG2:=hide hg2;clear hm2 hg2));go_end0;rw[HE.out];refine⟨rfl,?_,(Fr.alloc (Fr.alloc (Fr.refl _ w) _) _).trans (Fr.tK HG2.out) (fun k hk=> .inl (.inr hk))⟩;have hq:=HMP.out
  have hq2:dY w2 b (sc++[(⟨x.f1,pos,x.f0,free⟩:dQ)]).length (n_ (sc++[(⟨x.f1,pos,x.f0,free⟩:dQ)])) (if(n_ sc x.f1).isSome then cm else cm+1):=by
   rw[←R6 sc ⟨x.f1,pos,x.f0,free⟩,List.length_append,J4.out];exact hq
  exact(H.out.below (au (au (Below.refl _ _) _) _)).anM Vt.out rfl hq2 HG2.out
end Go.Proofs.YtldgmneijipbjaaGreatDoor.H
