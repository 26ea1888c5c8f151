import Derived.Test.YtldgmneijipbjaaGreatDoorBU5
import Derived.Test.YtldgmneijipbjaaGreatDoorBF0
import Derived.Test.YtldgmneijipbjaaGreatDoorBMac
set_option linter.unusedVariables false
set_option linter.unusedSimpArgs false
set_option maxRecDepth 100000
set_option maxHeartbeats 16000000
namespace Go.Proofs.YtldgmneijipbjaaGreatDoor.H
open Go.RowKit Go.Shelf Go.Maps Go.WideMaps Go.Proofs.YtldgmneijipbjaaGreatDoorW.PrintWords Go.Proofs.YtldgmneijipbjaaGreatDoorW.PrintLast Go.Proofs.YtldgmneijipbjaaGreatDoorW.PrintMore
open PScopeOwn
attribute [local go_sem] Oper.semAt_some
theorem R4 {st:PS}{en:En}{s tn:ByteArray}{tk tp ti:Int}{tc z61:Bool}(h1:iV en.fP s=none)(h2:(kS st.aN s).isSome=true)(h3:(kS st.aN s).getD Ab= .agg #[.string tn,.int .i64 tk,.int .i64 tp,.int .i64 ti,.bool tc])(h4:decide (s=bB)=false)(vP:(tk==61)=z61):
  ∃q,gH st en s=some (q,tp,!tc)∧q=if z61=true then 4 else 3:=by
 unfold kS at h2 h3;unfold gH;rw[h1];simp only[decide_eq_false_iff_not]at h4;rw[if_neg h4]
 cases ht:bO st.aN s with
 |none=>rw[ht]at h2;cases h2
 |some t=>
  rw[ht]at h3;obtain⟨a,b,c,d,e⟩:=t;have h3:dA.val ⟨a,b,c,d,e⟩= .agg #[.string tn,.int .i64 tk,.int .i64 tp,.int .i64 ti,.bool tc]:=h3;unfold dA.val at h3;injection h3 with h3
  injection h3 with h3
  injection h3 with e1 h3
  injection h3 with e2 h3
  injection h3 with e3 h3
  injection h3 with e4 h3
  injection h3 with e5 h3
  injection e2 with _ e2
  injection e3 with _ e3
  injection e5 with e5
  simp only at e2 e3 e5;subst e2 e3 e5;refine⟨_,rfl,?_⟩;unfold uE;rw[←vP];simp
theorem rX (w:World):Calls Tryz.prog 16 #[] w fun e w'=>∃A c,e= .returned (.slice A blt.length c)∧blt.length≤c∧Kd.C Kd.string w' A blt.length blt∧Below w.heap.size w w':=by
 refine(l5.calls blt w rfl).mono ?_;exact UH
structure SJ (w:World)(W:World)(c1 c2 c3:Array Value)(X:World):Prop where
 fr:Fr (fun k=>k=w.heap.size+1∨k=w.heap.size+1+1∨k=w.heap.size+1+1+1) W X
 b1:X.heap[w.heap.size+1]?=some (.cells c1 37 (0,0))
 b2:X.heap[w.heap.size+1+1]?=some (.cells c2 4 (0,0))
 b3:X.heap[w.heap.size+1+1+1]?=some (.cells c3 4 (0,0))
 sz:w.heap.size+5≤W.heap.size
section
variable {w W X Y:World} {s:ByteArray} {c1 c2 c3 d1 d2 d3:Array Value}
theorem SJ.make {A:Option Addr}{len c:Nat}(h:SW w s A len c W)(hb:Below W.heap.size W X):SJ w W #[.int .i64 0,.int .i64 0,.int .i64 0,.string ⟨#[]⟩,.bool false] #[.bool false] #[.bool false] X:=by
 have hz:=h.sz;exact⟨Fr.of_below hb,(hb.block _ aG).trans h.b1,(hb.block _ aG).trans h.b2,(hb.block _ aG).trans h.b3,hz⟩
theorem SJ.one (h:SJ w W c1 c2 c3 X)(hf:Fr (fun k=>k=w.heap.size+1) X Y)(hb:Y.heap[w.heap.size+1]?=some (.cells d1 37 (0,0))):SJ w W d1 c2 c3 Y:=by
 have hz:=h.sz;have hs:=h.fr.size;exact⟨h.fr.trans hf (fun i e=> .inl (.inl e)),hb,(hf.block _ aG aG).trans h.b2,(hf.block _ aG aG).trans h.b3,hz⟩
theorem SJ.two (h:SJ w W c1 c2 c3 X)(hf:Fr (fun k=>k=w.heap.size+1+1) X Y)(hb:Y.heap[w.heap.size+1+1]?=some (.cells d2 4 (0,0))):SJ w W c1 d2 c3 Y:=by
 have hz:=h.sz;have hs:=h.fr.size;exact⟨h.fr.trans hf (fun i e=> .inl (.inr (.inl e))),(hf.block _ aG aG).trans h.b1,hb,(hf.block _ aG aG).trans h.b3,hz⟩
theorem SJ.three (h:SJ w W c1 c2 c3 X)(hf:Fr (fun k=>k=w.heap.size+1+1+1) X Y)(hb:Y.heap[w.heap.size+1+1+1]?=some (.cells d3 4 (0,0))):SJ w W c1 c2 d3 Y:=by
 have hz:=h.sz;have hs:=h.fr.size;exact⟨h.fr.trans hf (fun i e=> .inl (.inr (.inr e))),(hf.block _ aG aG).trans h.b1,(hf.block _ aG aG).trans h.b2,hb,hz⟩
theorem SJ.keep (h:SJ w W c1 c2 c3 X){k:Nat}(hk:k<W.heap.size)(hn:k≤w.heap.size∨w.heap.size+5≤k):X.heap[k]?=W.heap[k]?:=h.fr.block k hk aG
end
theorem oh {β:Type}{F:Fence}{n:Nat}{P:Program}{Q:Exit→Act→World→Prop}{c:Code}{a:Act}{W:World}(vs:β→List (Nat×Value))(R:β→World→Prop)(h:c.wpIn F n P (fun e a' W2=>e= .normal∧∃v,a'=mP a (vs v)∧R v W2) a W)(k:∀v W2,R v W2→Q .normal (mP a (vs v)) W2):c.wpIn F n P Q a W:=
 wpIn_mono h (by rintro e a' W2 ⟨rfl,v,rfl,hR⟩;exact k v _ hR)
theorem uZ {w:World}{b:Nat}{t:TypeId}{u0 u1 u2 u3 u4:Value}(h:w.heap[b]?=some (.cells #[u0,u1,u2,u3,u4] t (0,0)))(v0 v1 v2 v3 v4:Value):
  ((w.cell? ⟨b,0,none⟩=some u0∧w.frozen? ⟨b,0,none⟩=false)∧((w.setCell ⟨b,0,none⟩ v0).cell? ⟨b,1,none⟩=some u1∧(w.setCell ⟨b,0,none⟩ v0).frozen? ⟨b,1,none⟩=false)∧
  (((w.setCell ⟨b,0,none⟩ v0).setCell ⟨b,1,none⟩ v1).cell? ⟨b,2,none⟩=some u2∧((w.setCell ⟨b,0,none⟩ v0).setCell ⟨b,1,none⟩ v1).frozen? ⟨b,2,none⟩=false)∧
  ((((w.setCell ⟨b,0,none⟩ v0).setCell ⟨b,1,none⟩ v1).setCell ⟨b,2,none⟩ v2).cell? ⟨b,3,none⟩=some u3∧(((w.setCell ⟨b,0,none⟩ v0).setCell ⟨b,1,none⟩ v1).setCell ⟨b,2,none⟩ v2).frozen? ⟨b,3,none⟩=false)∧
  (((((w.setCell ⟨b,0,none⟩ v0).setCell ⟨b,1,none⟩ v1).setCell ⟨b,2,none⟩ v2).setCell ⟨b,3,none⟩ v3).cell? ⟨b,4,none⟩=some u4∧((((w.setCell ⟨b,0,none⟩ v0).setCell ⟨b,1,none⟩ v1).setCell ⟨b,2,none⟩ v2).setCell ⟨b,3,none⟩ v3).frozen? ⟨b,4,none⟩=false))∧
  ((((((w.setCell ⟨b,0,none⟩ v0).setCell ⟨b,1,none⟩ v1).setCell ⟨b,2,none⟩ v2).setCell ⟨b,3,none⟩ v3).setCell ⟨b,4,none⟩ v4).heap[b]?=some (.cells #[v0,v1,v2,v3,v4] t (0,0))∧
  Fr (fun k=>k=b) w (((((w.setCell ⟨b,0,none⟩ v0).setCell ⟨b,1,none⟩ v1).setCell ⟨b,2,none⟩ v2).setCell ⟨b,3,none⟩ v3).setCell ⟨b,4,none⟩ v4)):=by
 have h1:=bT (cs':=#[v0,u1,u2,u3,u4]) h 0 v0 rfl;have h2:=bT (cs':=#[v0,v1,u2,u3,u4]) h1 1 v1 rfl;have h3:=bT (cs':=#[v0,v1,v2,u3,u4]) h2 2 v2 rfl;have h4:=bT (cs':=#[v0,v1,v2,v3,u4]) h3 3 v3 rfl;have h5:=bT (cs':=#[v0,v1,v2,v3,v4]) h4 4 v4 rfl
 exact⟨⟨⟨(aj h 0).trans rfl,aQ h 0⟩,⟨(aj h1 1).trans rfl,aQ h1 1⟩,⟨(aj h2 2).trans rfl,aQ h2 2⟩,⟨(aj h3 3).trans rfl,aQ h3 3⟩,⟨(aj h4 4).trans rfl,aQ h4 4⟩⟩,h5,
  Fr.setCell (p:=⟨b,4,none⟩) (Fr.setCell (p:=⟨b,3,none⟩) (Fr.setCell (p:=⟨b,2,none⟩) (Fr.setCell (p:=⟨b,1,none⟩) (Fr.setCell (p:=⟨b,0,none⟩) (Fr.refl (fun k=>k=b) w) (.inl rfl) _) (.inl rfl) _) (.inl rfl) _) (.inl rfl) _) (.inl rfl) _⟩
structure SK (w:World)(s:ByteArray)(W W1:World)(c1 c2 c3:Array Value)(X:World):Prop where
 fr:Fr (fun k=>k=w.heap.size+1∨k=w.heap.size+2∨k=w.heap.size+3) W X
 b1:X.heap[w.heap.size+1]?=some (.cells c1 37 (0,0))
 b2:X.heap[w.heap.size+1+1]?=some (.cells c2 4 (0,0))
 b3:X.heap[w.heap.size+1+1+1]?=some (.cells c3 4 (0,0))
 e1:X.heap[W.heap.size]?=W1.heap[W.heap.size]?
 e2:X.heap[w.heap.size]?=W1.heap[w.heap.size]?
 sz:w.heap.size+5≤W.heap.size
 s1:W.heap.size<W1.heap.size
 s2:W1.heap.size≤X.heap.size
section
variable {w W W1 X Y:World} {s:ByteArray} {c1 c2 c3 d1 d2 d3:Array Value}
theorem SK.make {A:Option Addr}{len c:Nat}(h:SW w s A len c W)(hw:Below W.heap.size W W1)(hs:W.heap.size<W1.heap.size)(hb:Below W1.heap.size W1 X):SK w s W W1 #[.int .i64 0,.int .i64 0,.int .i64 0,.string ⟨#[]⟩,.bool false] #[.bool false] #[.bool false] X:=by
 have hz:=h.sz;have kp:∀k,k<W.heap.size→X.heap[k]?=W.heap[k]?:=fun k hk=>(hb.block k aG).trans (hw.block k hk);exact⟨Fr.of_below (hw.trans (hb.mono hw.size)),(kp _ aG).trans h.b1,(kp _ aG).trans h.b2,(kp _ aG).trans h.b3,hb.block _ hs,hb.block _ aG,hz,hs,hb.size⟩
theorem SK.one (h:SK w s W W1 c1 c2 c3 X)(hf:Fr (fun k=>k=w.heap.size+1) X Y)(hb:Y.heap[w.heap.size+1]?=some (.cells d1 37 (0,0))):SK w s W W1 d1 c2 c3 Y:=by
 have hz:=h.sz;have h1:=h.s1;have h2:=h.s2;exact⟨h.fr.trans hf (fun i e=> .inl (.inl e)),hb,(hf.block _ aG aG).trans h.b2,(hf.block _ aG aG).trans h.b3,(hf.block _ aG aG).trans h.e1,(hf.block _ aG aG).trans h.e2,hz,h1,Nat.le_trans h2 hf.size⟩
theorem SK.two (h:SK w s W W1 c1 c2 c3 X)(hf:Fr (fun k=>k=w.heap.size+1+1) X Y)(hb:Y.heap[w.heap.size+1+1]?=some (.cells d2 4 (0,0))):SK w s W W1 c1 d2 c3 Y:=by
 have hz:=h.sz;have h1:=h.s1;have h2:=h.s2;exact⟨h.fr.trans hf (fun i e=> .inl (.inr (.inl e))),(hf.block _ aG aG).trans h.b1,hb,(hf.block _ aG aG).trans h.b3,(hf.block _ aG aG).trans h.e1,(hf.block _ aG aG).trans h.e2,hz,h1,Nat.le_trans h2 hf.size⟩
theorem SK.three (h:SK w s W W1 c1 c2 c3 X)(hf:Fr (fun k=>k=w.heap.size+1+1+1) X Y)(hb:Y.heap[w.heap.size+1+1+1]?=some (.cells d3 4 (0,0))):SK w s W W1 c1 c2 d3 Y:=by
 have hz:=h.sz;have h1:=h.s1;have h2:=h.s2;exact⟨h.fr.trans hf (fun i e=> .inl (.inr (.inr e))),(hf.block _ aG aG).trans h.b1,(hf.block _ aG aG).trans h.b2,hb,(hf.block _ aG aG).trans h.e1,(hf.block _ aG aG).trans h.e2,hz,h1,Nat.le_trans h2 hf.size⟩
end
theorem xM {D:Nat}{w:World}{m:FM}{st:PS}{en:En}(h:Fin D w m st en)(s:ByteArray)(hs:s.size≤1099511627776)(hms:m.ms.length≤1099511627776):
  Calls Tryz.prog 79 #[.pointer (some ⟨m.g,0,none⟩),.string s] w fun e w'=>e= .returned (.tuple #[(nT st en s).1,.bool (nT st en s).2.1,.bool (nT st en s).2.2])∧Below w.heap.size w w':=by
 obtain⟨A,c,hvs,hcap,hC⟩:=Kd.bL h.vs;rw[show m.row.length=m.ms.length from by unfold FM.row;simp]at hvs hcap hC;have c4:∀o1 o2 o3 o4,((((w.alloc o1).alloc o2).alloc o3).alloc o4).cell? ⟨m.g,4,none⟩=some (.slice A m.ms.length c):=fun o1 o2 o3 o4=>bY _ (bY _ (bY _ (bY _ ((aj h.blk 4).trans (by rw[←hvs];rfl)))));have H:=hide h;have HVS:=hide hvs;have Vt:=hide hms;have aiE:=hide hs;have hsw:=aiD w s A m.ms.length c;obtain⟨W0,hW0⟩:∃W0,Gj w s A m.ms.length c=W0:=⟨_,rfl⟩;rw[hW0]at hsw;have HS:=hide hsw;have HW0:=hide hW0;obtain⟨rv,Mg⟩:∃rv,nT st en s=rv:=⟨_,rfl⟩;have HRV:=hide Mg;rw[Mg];refine(callsIn_wide (n:=12)).1 ?_;refine callsIn_of_wp_marks Tryz.func79 rfl trivial ?_ rfl;simp only[Tryz.ntmps79,List.size_toArray,List.length_cons,List.length_nil,Nat.reduceAdd,Nat.reduceSub,Array.replicate_succ,Array.replicate_zero,List.push_toArray,List.append_toArray,List.nil_append,List.cons_append];clear h hC hsw hW0 hvs hms hcap Mg
 gi_wp2_with ((first|refine⟨trivial,(fun h=>by cases h),?_⟩|refine⟨trivial,?_⟩);gi_at_call 114;refine(callsIn_wide.2 (Gi _ _ _ _)).mono ?_;rintro e W2 ⟨rfl,rfl⟩)
 show Code.wpIn Fence.wide 12 Tryz.prog _ _ _ (Gj w s A m.ms.length c);rw[HW0.out];refine Na (p:=19) (q:=20) (r:=8) wN (bx:=w.heap.size+4) rfl (fun k=>k=w.heap.size+1∨k=w.heap.size+2∨k=w.heap.size+3) m.ms Vt.out A c HS.out.b4 aG (by have:=HS.out.sz;rintro k (rfl|rfl|rfl)<;>omega) ?hC en s H.out.len (SX w.heap.size W0 en s) ?hSx ?hassign ?hbody ?hdone ?hstop
 case hassign=>
  intro l x W K hK;simp only[List.setIfInBounds_toArray,List.set_cons_zero,List.set_cons_succ]at hK⊢
  gi_wp2
  exact hK
 case hC=>
  intro W hW
  have hR:=bW (w':=W) rfl H.out.vs (fun k q=>by
   have hk:=Kd.vF H.out.vs k q;exact(hW k (by have:=HS.out.sz;omega) aG).trans (HS.out.low.block k hk))
  obtain⟨A',c',e,-,hC'⟩:=Kd.bL hR;rw[show m.row.length=m.ms.length from by unfold FM.row;simp]at e hC';rw[HVS.out]at e
  cases e
  exact hC'
 case hSx=>
  rintro X Y ⟨h1,d,h2,h3,h4,h5⟩ hb;have hz:=HS.out.sz;exact⟨⟨hb.os.trans h1.os,hb.tape.trans h1.tape,hb.output.trans h1.output,Nat.le_trans h1.size hb.size,fun k hk hn=>(hb.block k hk).trans (h1.block k hk hn)⟩,d,h2,(hb.block _ aG).trans h3,(hb.block _ aG).trans h4,(hb.block _ aG).trans h5⟩
 case hbody=>
  intro l pre x W hl hr hi hv1 hv2;have hsw:=HS.out.below hi.low;obtain⟨ls,hls⟩:∃ls,en.fP[x.i]?=some ls:=⟨_,List.getElem?_eq_getElem (by have:=H.out.len;omega)⟩;obtain⟨cm,hmap⟩:=H.out.sc x.i x.b ls hv2 hls;have hmw:dY W x.b ls.length (n_ ls) cm:=hmap.same ((hi.low.block _ (by have:=hmap.lt;have:=HS.out.sz;omega)).trans (HS.out.low.block _ hmap.lt));have HM:=hide hmw;have sF:=hide (show s.size≤maxLen by have:=aiE.out;unfold maxLen;omega);have c3:W.cell? ⟨w.heap.size,0,none⟩=some (.string s):=(aj hsw.b0 0).trans rfl;have HSW:=hide hsw;have HI:=hide hi;have HLS:=hide hls;have HV:=hide hv1;simp only[List.setIfInBounds_toArray,List.set_cons_zero,List.set_cons_succ]
  cases hd:kP ls s with
  |none=>
   have HD:=hide (show n_ ls s=none from by unfold n_;rw[hd];rfl);have Jr:=hide hd;clear hd hsw hi hls hv1 hmw hmap hv2 hl hr c4
   gi_wp2_with (gi_at_lookup;refine qN rfl _ _ 97 rfl 99 Tryz.underlying97 (xJ _) x.b _ _ (n_ ls) rfl HM.out s rfl sF.out afz rQ false rQ ?_)
   refine⟨Fr.alloc (Fr.refl _ W) _,HI.out.low.trans ((au (Below.refl _ W) _).mono HI.out.low.size),fun j l hj hl=>?_⟩;rw[List.length_append]at hj;have hj:en.fP.length≤j+(pre.length+1):=hj;have hv:=HV.out;have hle:=H.out.len;by_cases e:j=x.i
   ·subst e
    have hll:=HLS.out;rw[hll]at hl
    cases hl
    exact Jr.out
   ·exact HI.out.no j l aG hl
  |some d=>
   have HD:=hide (show n_ ls s=some d.val from by unfold n_;rw[hd];rfl);have Jr:=hide hd;clear hd hsw hi hls hv1 hmw hmap hv2 hl hr c4
   gi_wp2_with (gi_at_lookup;refine qN rfl _ _ 97 rfl 99 Tryz.underlying97 (xJ _) x.b _ _ (n_ ls) rfl HM.out s rfl sF.out d.val rQ true rQ ?_;unfold dQ.val)
   obtain⟨W1,hW1⟩:∃W1,W.alloc (.cells #[.int .i64 d.pos,.int .i64 d.kind,.bool d.free] 99)=W1:=⟨_,rfl⟩;have hbx:W1.heap[W.heap.size]?=some (.cells #[.int .i64 d.pos,.int .i64 d.kind,.bool d.free] 99 (0,0)):=hW1▸aR W _;have hlow:Below W.heap.size W W1:=hW1▸au (Below.refl _ _) _;rw[hW1];have HW:=hide hlow;have HLT:=hide (show W.heap.size<W1.heap.size from ay hbx);have dI:=hide hbx;have hz:=HSW.out.sz
   have hS5:∀W':World,W'.heap[W.heap.size]?=W1.heap[W.heap.size]?→W'.heap[w.heap.size]?=W1.heap[w.heap.size]?→W'.cell? ⟨W.heap.size,0,none⟩=some (.int .i64 d.pos)∧W'.cell? ⟨W.heap.size,2,none⟩=some (.bool d.free)∧W'.cell? ⟨w.heap.size,0,none⟩=some (.string s)
    :=fun W' e1 e2=>⟨(aj (e1.trans dI.out) 0).trans rfl,(aj (e1.trans dI.out) 2).trans rfl,(aj (e2.trans ((HW.out.block _ (ay HSW.out.b0)).trans HSW.out.b0)) 0).trans rfl⟩
   have HS5:=hide hS5;clear hS5 hW1 hbx hlow hz;refine Kn (fun _:Unit=>[(28,.pointer (some ⟨W.heap.size,0,none⟩)),(29,.int .i64 d.pos),(30,.string s),(31,.agg #[.int .i64 0,.int .i64 2,.int .i64 d.pos,.string s,.bool false]),(32,.pointer (some ⟨W.heap.size,2,none⟩)),(33,.bool d.free)]) (fun W2=>Fr (fun k=>k=w.heap.size+1∨k=w.heap.size+2∨k=w.heap.size+3) W W2∧SX w.heap.size W0 en s W2) ?h ?k
   case h=>
    have hb0:Below W1.heap.size W1 W1.drew:=bq (Below.refl _ _);refine Vm (n:=9) (S:=fun w'=>w'.cell? ⟨W.heap.size,0,none⟩=some (.int .i64 d.pos)∧w'.cell? ⟨W.heap.size,2,none⟩=some (.bool d.free)∧w'.cell? ⟨w.heap.size,0,none⟩=some (.string s)) (ds:=[8]) #[false,false,false,false,false,false,false,false,false] dL rfl rfl dL afD ⟨(HS5.out _ (hb0.block _ (ay dI.out)) (hb0.block _ NV)).1,(HS5.out _ (hb0.block _ (ay dI.out)) (hb0.block _ NV)).2.1,(HS5.out _ (hb0.block _ (ay dI.out)) (hb0.block _ NV)).2.2⟩ (fun hHeld=>?_);obtain⟨wd,hwd⟩:∃wd,wd=W1.drew:=⟨_,rfl⟩;rw[←hwd]at hHeld⊢;have B0:=hide (show Below W1.heap.size W1 wd from gX);have K0:=hide (SK.make HSW.out HW.out HLT.out B0.out);clear hwd hb0;refine pv 0 28 ?_;refine pv 4 32 ?_;refine tv 1 29 hHeld ?_;refine tv 2 30 hHeld ?_;refine pv 3 31 ?_;refine tv 5 33 hHeld ?_;refine iw (i:=6) (N:=none) #[true,true,true,true,true,true,true,false,false] rfl rfl dL wN (fun K hK=>?_);obtain⟨⟨⟨p0,r0⟩,⟨p1,r1⟩,⟨p2,r2⟩,⟨p3,r3⟩,⟨p4,r4⟩⟩,hB,hF⟩:=uZ (K0.out.b1) (.int .i64 0) (.int .i64 2) (.int .i64 d.pos) (.string s) (.bool false);refine gy (w1:=?_) Nr rfl ?_ ?_;rotate_left
    ·go_simp
     rfl
    clear p0 r0 p1 r1 p2 r2 p3 r3 p4 r4;obtain⟨w6,hw⟩:∃x,(((((wd.setCell ⟨w.heap.size+1,0,none⟩ (.int .i64 0)).setCell ⟨w.heap.size+1,1,none⟩ (.int .i64 2)).setCell ⟨w.heap.size+1,2,none⟩ (.int .i64 d.pos)).setCell ⟨w.heap.size+1,3,none⟩ (.string s)).setCell ⟨w.heap.size+1,4,none⟩ (.bool false))=x:=⟨_,rfl⟩;rw[hw];rw[hw]at hB hF;have F6:=hide hF;have B6:=hide hB;clear hB hF hw;have K6:=hide (K0.out.one F6.out B6.out);refine hK.out _ _ ⟨(HS5.out _ K6.out.e1 K6.out.e2).1,(HS5.out _ K6.out.e1 K6.out.e2).2.1,(HS5.out _ K6.out.e1 K6.out.e2).2.2⟩ (fun hHeld=>?_);clear hK K;refine iw (i:=7) (N:=none) #[true,true,true,true,true,true,true,true,false] rfl rfl dL wN (fun K hK=>?_);have p0:=(aj (K6.out.b2) 0).trans rfl;have r0:=aQ (K6.out.b2) 0;have hB:=bT (cs':=#[.bool true]) (K6.out.b2) 0 (.bool true) rfl;have hF:=Fr.setCell (p:=⟨w.heap.size+1+1,0,none⟩) (Fr.refl (fun k=>k=w.heap.size+1+1) w6) (.inl rfl) (.bool true);refine gy (w1:=?_) Nr rfl ?_ ?_;rotate_left
    ·go_simp
     rfl
    clear p0 r0;obtain⟨w7,hw⟩:∃x,w6.setCell ⟨w.heap.size+1+1,0,none⟩ (.bool true)=x:=⟨_,rfl⟩;rw[hw];rw[hw]at hB hF;have F7:=hide hF;have B7:=hide hB;clear hB hF hw;have K7:=hide (K6.out.two F7.out B7.out);refine hK.out _ _ ⟨(HS5.out _ K7.out.e1 K7.out.e2).1,(HS5.out _ K7.out.e1 K7.out.e2).2.1,(HS5.out _ K7.out.e1 K7.out.e2).2.2⟩ (fun hHeld=>?_);clear hK K;refine eF (i:=8) (N:=none) #[true,true,true,true,true,true,true,true,true] rfl rfl dL wN (fun K hK=>?_);have p0:=(aj (K7.out.b3) 0).trans rfl;have r0:=aQ (K7.out.b3) 0;have hB:=bT (cs':=#[.bool d.free]) (K7.out.b3) 0 (.bool d.free) rfl;have hF:=Fr.setCell (p:=⟨w.heap.size+1+1+1,0,none⟩) (Fr.refl (fun k=>k=w.heap.size+1+1+1) w7) (.inl rfl) (.bool d.free);refine gy (w1:=?_) Nr rfl ?_ ?_;rotate_left
    ·go_simp
     rfl
    clear p0 r0;obtain⟨w8,hw⟩:∃x,w7.setCell ⟨w.heap.size+1+1+1,0,none⟩ (.bool d.free)=x:=⟨_,rfl⟩;rw[hw];rw[hw]at hB hF;have F8:=hide hF;have B8:=hide hB;clear hB hF hw;have K8:=hide (K7.out.three F8.out B8.out);refine hK.out _ _ ?_;clear hK K;refine dP dL ?_;refine⟨rfl,⟨(),rfl⟩,K8.out.fr,(Fr.of_below HI.out.low).trans K8.out.fr (fun i e=> .inl e),d,?_,K8.out.b1,K8.out.b2,K8.out.b3⟩;have hv:=HV.out;have hle:=H.out.len;exact Gd Jr.out _ en.fP x.i rfl HLS.out (fun j y hj hy=>HI.out.no j y aG hy)
   case k=>
    rintro-W2 ⟨h1,h2⟩
    gi_wp2
    exact⟨h1,rfl,h2⟩
 case hdone=>
  intro D2 W hD2 hno hlow hK;have hsw:=HS.out.below hlow;have sF:=hide (show s.size≤maxLen by have:=aiE.out;unfold maxLen;omega)
  obtain⟨tn,tk,tp,ti,tc,k,hT,hk⟩:∃tn tk tp ti tc k,(kS st.aN s).getD Ab= .agg #[.string tn,.int .i64 tk,.int .i64 tp,.int .i64 ti,.bool tc]∧(kS st.aN s).isSome=k:=by
   unfold kS
   cases bO st.aN s with
   |none=>exact⟨_,_,_,_,_,_,rfl,rfl⟩
   |some t=>exact⟨_,_,_,_,_,_,rfl,rfl⟩
  have hbg:W.heap[m.g]?=some (.cells (m.cells st en) 56 (0,0)):=(hsw.low.block _ (H.out.hi _ (.inl rfl))).trans H.out.blk;have hmt:dY W m.mt st.aN.length (kS st.aN) st.aN.length:=H.out.mt.same (hsw.low.block _ H.out.mt.lt);have Dj:=hide hbg;have yA:=hide hmt;have HSW:=hide hsw;have HTV:=hide hT;have R5:=hide hk;have gN:=hide hno;have HDK:=hide hK
  have hS6:∀W':World,Below W.heap.size W W'→W'.cell? ⟨m.g,0,none⟩=some (.map (some m.mt))∧W'.cell? ⟨w.heap.size,0,none⟩=some (.string s)∧(Instr.lookup 52 (.map (some m.mt)) (.string s) true).run Tryz.prog W'= .ok (.tuple #[.agg #[.string tn,.int .i64 tk,.int .i64 tp,.int .i64 ti,.bool tc],.bool k]) W'
   :=fun W' hb=>⟨(aj ((hb.block _ (ay Dj.out)).trans Dj.out) 0).trans rfl,(aj ((hb.block _ (ay HSW.out.b0)).trans HSW.out.b0) 0).trans rfl,by
    have:=(uU (yA.out.same (hb.block _ yA.out.lt)) Tryz.underlying52 (kT W') s sF.out).2;rw[HTV.out,R5.out]at this;exact this⟩
  have HS6:=hide hS6;have HD2:=hide (show w.heap.size+5≤D2 from by have:=HS.out.sz;omega);clear hS6 hbg hmt hsw hT hk hno hK hlow c4 hD2
  gi_wp2
  refine oh (fun b:Nat=>[(35,.pointer (some ⟨m.g,0,none⟩)),(36,.pointer (some ⟨m.g,0,none⟩)),(37,.pointer (some ⟨m.g,0,none⟩)),(38,.map (some m.mt)),(39,.string s),(40,.tuple #[.agg #[.string tn,.int .i64 tk,.int .i64 tp,.int .i64 ti,.bool tc],.bool k]),(34,.tuple #[.agg #[.string tn,.int .i64 tk,.int .i64 tp,.int .i64 ti,.bool tc],.bool k]),(41,.agg #[.string tn,.int .i64 tk,.int .i64 tp,.int .i64 ti,.bool tc]),(42,.bool k),(11,.pointer (some ⟨b,0,none⟩)),(12,.bool k)]) (fun b W2=>Below W.heap.size W W2∧W.heap.size≤b∧W2.heap[b]?=some (.cells #[.string tn,.int .i64 tk,.int .i64 tp,.int .i64 ti,.bool tc] 43 (0,0))) ?h6 ?k6
  case h6=>
   refine wpIn_wide.2 ?_;have hb0:Below W.heap.size W W.drew:=bq (Below.refl _ _);refine bX (n:=12) (S:=fun w'=>w'.cell? ⟨m.g,0,none⟩=some (.map (some m.mt))∧w'.cell? ⟨w.heap.size,0,none⟩=some (.string s)∧(Instr.lookup 52 (.map (some m.mt)) (.string s) true).run Tryz.prog w'= .ok (.tuple #[.agg #[.string tn,.int .i64 tk,.int .i64 tp,.int .i64 ti,.bool tc],.bool k]) w') (ds:=[10]) #[false,false,false,false,false,false,false,false,false,false,false,false] dL rfl rfl ⟨(HS6.out _ hb0).1,(HS6.out _ hb0).2.1,(HS6.out _ hb0).2.2⟩ (fun hHeld=>?_);obtain⟨wd,hwd⟩:∃wd,wd=W.drew:=⟨_,rfl⟩;rw[←hwd]at hHeld⊢;have B0:=hide (show Below W.heap.size W wd from gX);clear hwd hb0;refine pv 0 35 ?_;refine pv 1 36 ?_;refine pv 2 37 ?_;refine tv 3 38 hHeld ?_;refine tv 4 39 hHeld ?_;refine tv 5 40 hHeld ?_;refine pv 6 34 ?_;refine pv 7 41 ?_;refine pv 8 42 ?_;refine iw (i:=9) (N:=some 11) #[true,true,true,true,true,true,true,true,true,true,false,false] rfl rfl dL wN (fun K hK=>?_);refine gW (w1:=?_) (v:=?_) Nr rfl ?_ ?_;rotate_left 2
   ·exact Xt
   obtain⟨w9,hw⟩:∃x,wd.alloc (.cells #[.string ⟨#[]⟩,.int .i64 0,.int .i64 0,.int .i64 0,.bool false] 43)=x:=⟨_,rfl⟩;rw[hw];have hB9:w9.heap[wd.heap.size]?=some (.cells #[.string ⟨#[]⟩,.int .i64 0,.int .i64 0,.int .i64 0,.bool false] 43 (0,0)):=hw▸aR wd _;have hL9:Below wd.heap.size wd w9:=hw▸au (Below.refl _ _) _;have B9:=hide hB9;have L9:=hide (B0.out.trans (hL9.mono B0.out.size));clear hw hB9 hL9;refine hK.out _ _ ⟨(HS6.out _ L9.out).1,(HS6.out _ L9.out).2.1,(HS6.out _ L9.out).2.2⟩ (fun hHeld=>?_);clear hK K;refine cK (a':=?_) ?_ ?_;rotate_left
   ·show Act.put _ (some 11) _=_
    exact aad
   refine eF (i:=10) (N:=none) #[true,true,true,true,true,true,true,true,true,true,true,false] rfl rfl dL wN (fun K hK=>?_);obtain⟨⟨⟨p0,r0⟩,⟨p1,r1⟩,⟨p2,r2⟩,⟨p3,r3⟩,⟨p4,r4⟩⟩,hB,hF⟩:=uZ (B9.out) (.string tn) (.int .i64 tk) (.int .i64 tp) (.int .i64 ti) (.bool tc);refine gy (w1:=?_) Nr rfl ?_ ?_;rotate_left
   ·go_simp
    rfl
   clear p0 r0 p1 r1 p2 r2 p3 r3 p4 r4;obtain⟨Gl,hw⟩:∃x,(((((w9.setCell ⟨wd.heap.size,0,none⟩ (.string tn)).setCell ⟨wd.heap.size,1,none⟩ (.int .i64 tk)).setCell ⟨wd.heap.size,2,none⟩ (.int .i64 tp)).setCell ⟨wd.heap.size,3,none⟩ (.int .i64 ti)).setCell ⟨wd.heap.size,4,none⟩ (.bool tc))=x:=⟨_,rfl⟩;rw[hw];rw[hw]at hB hF;have F10:=hide hF;have B10:=hide hB;clear hB hF hw;have L10:=hide (L9.out.trans (F10.out.below (B:=W.heap.size) L9.out.size (by rintro k rfl;exact B0.out.size)));refine hK.out _ _ ?_;clear hK K;refine pv 11 12 ?_;refine dP dL ?_;refine⟨rfl,wd.heap.size,?_,L10.out,B0.out.size,B10.out⟩;exact ZR
  case k6=>
   rintro bt W2 ⟨h1,h2,h3⟩;refine ZG ?_;have afE:=HSW.out.below h1;have e3:W2.cell? ⟨w.heap.size,0,none⟩=some (.string s):=(aj afE.b0 0).trans rfl;have t1:W2.cell? ⟨bt,1,none⟩=some (.int .i64 tk):=(aj h3 1).trans rfl;have pq:=hide afE;have HB2:=hide h1;have P8:=hide h3;have HD3:=hide (show W2.heap[D2]?=some (.deferred (some []))from(h1.block _ (ay HDK.out)).trans HDK.out);clear afE h1 h3;obtain⟨zd,hzd⟩:∃z,(s.toList==[100,101,102,97,117,108,116])=z:=⟨_,rfl⟩
   have hsd:(s.toList==[100,101,102,97,117,108,116])=decide (s=bB):=by
    exact adx
   have HZD:=hide (show decide (s=bB)=zd from hsd▸hzd);clear hsd;have tC:=hide (show w.heap.size+5≤bt∧bt<W2.heap.size from⟨Nat.le_trans HSW.out.sz h2,ay P8.out⟩);clear h2;have HC:=hide (fun A c w=>xg blt s wN A c (w:=w));obtain⟨kd,hkd⟩:∃z,(k&&!zd)=z:=⟨_,rfl⟩
   cases kd with
   |true=>
    obtain⟨rfl,rfl⟩:k=true∧zd=false:=by revert hkd;cases k<;>cases zd<;>decide
    obtain⟨z61,vP⟩:∃z,(tk==61)=z:=⟨_,rfl⟩;have hP:=R4 gN.out R5.out HTV.out HZD.out vP;obtain⟨q,hP,hq⟩:=hP;have HP:=hide hP;have t2:=t1
    cases z61
    all_goals
     simp only[if_true,if_false,Bool.false_eq_true]at hq;subst hq;clear hP
     gi_wp2
     clear e3 t1 t2 hzd vP hkd
     have aiF:∀W':World,W'.heap[bt]?=W2.heap[bt]?→W'.heap[w.heap.size]?=W2.heap[w.heap.size]?→W'.cell? ⟨bt,2,none⟩=some (.int .i64 tp)∧W'.cell? ⟨w.heap.size,0,none⟩=some (.string s)∧W'.cell? ⟨bt,4,none⟩=some (.bool tc)
      :=fun W' e1 e2=>⟨(aj (e1.trans P8.out) 2).trans rfl,(aj (e2.trans pq.out.b0) 0).trans rfl,(aj (e1.trans P8.out) 4).trans rfl⟩
     have Ac:=hide aiF;clear aiF
    ·refine oh (fun _:Unit=>[(51,.int .i64 3),(52,.pointer (some ⟨bt,2,none⟩)),(53,.int .i64 tp),(54,.string s),(55,.agg #[.int .i64 0,.int .i64 3,.int .i64 tp,.string s,.bool false]),(56,.pointer (some ⟨bt,4,none⟩)),(57,.bool tc),(58,.bool (!tc))]) (fun _ W3=>SJ w W2 #[.int .i64 0,.int .i64 3,.int .i64 tp,.string s,.bool false] #[.bool true] #[.bool (!tc)] W3) ?h11 ?k11
     case h11=>
      refine wpIn_wide.2 ?_;refine IZ ?_;intro hb0;refine bX (n:=11) (S:=fun w'=>w'.cell? ⟨bt,2,none⟩=some (.int .i64 tp)∧w'.cell? ⟨w.heap.size,0,none⟩=some (.string s)∧w'.cell? ⟨bt,4,none⟩=some (.bool tc)) (ds:=[10]) #[false,false,false,false,false,false,false,false,false,false,false] dL rfl rfl ⟨(Ac.out _ (hb0.block _ tC.out.2) (hb0.block _ (ay pq.out.b0))).1,(Ac.out _ (hb0.block _ tC.out.2) (hb0.block _ (ay pq.out.b0))).2.1,(Ac.out _ (hb0.block _ tC.out.2) (hb0.block _ (ay pq.out.b0))).2.2⟩ (fun hHeld=>?_);refine OT ?_;intro wd hwd;rw[←hwd]at hHeld⊢;refine NC ?_;intro B0;have K0:=hide (SJ.make pq.out B0.out);clear hwd hb0;refine pv 0 51 ?_;refine pv 1 52 ?_;refine pv 5 56 ?_;refine tv 2 53 hHeld ?_;refine tv 3 54 hHeld ?_;refine pv 4 55 ?_;refine tv 6 57 hHeld ?_;refine pv 7 58 ?_;refine iw (i:=8) (N:=none) #[true,true,true,true,true,true,true,true,true,false,false] rfl rfl dL wN (fun K hK=>?_);obtain⟨⟨⟨p0,r0⟩,⟨p1,r1⟩,⟨p2,r2⟩,⟨p3,r3⟩,⟨p4,r4⟩⟩,hB,hF⟩:=uZ (K0.out.b1) (.int .i64 0) (.int .i64 3) (.int .i64 tp) (.string s) (.bool false);refine gy (w1:=?_) Nr rfl ?_ ?_;rotate_left
      ·go_simp
       rfl
      clear p0 r0 p1 r1 p2 r2 p3 r3 p4 r4;obtain⟨w6,hw⟩:∃x,(((((wd.setCell ⟨w.heap.size+1,0,none⟩ (.int .i64 0)).setCell ⟨w.heap.size+1,1,none⟩ (.int .i64 3)).setCell ⟨w.heap.size+1,2,none⟩ (.int .i64 tp)).setCell ⟨w.heap.size+1,3,none⟩ (.string s)).setCell ⟨w.heap.size+1,4,none⟩ (.bool false))=x:=⟨_,rfl⟩;exact adr
     case k11=>
      rintro-W3 h1;refine ZG ?_;have HSJ:=hide h1;have hP:=HP.out;have HD4:=hide (show W3.heap[D2]?=some (.deferred (some []))from(h1.keep (ay HD3.out) (.inr HD2.out)).trans HD3.out);clear h1
      gi_wp2
      have hd1:=HD4.out;have hq1:=HSJ.out.b1;have hq2:=HSJ.out.b2;have hq3:=HSJ.out.b3;have hq4:Below w.heap.size w W3:=(pq.out.low.trans (HSJ.out.fr.below pq.out.low.size (by rintro k (rfl|rfl|rfl)<;>omega)));have hq5:=HD2.out;refine⟨qo,.inl ⟨_,_,rfl,run_takeDeferred hd1,?_⟩⟩;refine WB ?_;intro W9 Nc kp;refine I7 ?_;intro hfr a1 a2;have a3:W9.cell? ⟨w.heap.size+1+1+1,0,none⟩=some (.bool (!tc)):=(aj ((kp _ aG).trans hq3) 0).trans rfl;refine Y_ ?_;intro b0;have b1:W9.cell? ⟨w.heap.size+1,1,none⟩=some (.int .i64 3):=(aj a1 1).trans rfl;have b2:W9.cell? ⟨w.heap.size+1,2,none⟩=some (.int .i64 tp):=(aj a1 2).trans rfl;refine WJ ?_;intro b3 b4 Mg;exact⟨.tuple #[.agg #[.int .i64 0,.int .i64 3,.int .i64 tp,.string s,.bool false],.bool true,.bool (!tc)],rJ,rfl,hfr⟩
    ·refine oh (fun _:Unit=>[(51,.int .i64 4),(52,.pointer (some ⟨bt,2,none⟩)),(53,.int .i64 tp),(54,.string s),(55,.agg #[.int .i64 0,.int .i64 4,.int .i64 tp,.string s,.bool false]),(56,.pointer (some ⟨bt,4,none⟩)),(57,.bool tc),(58,.bool (!tc))]) (fun _ W3=>SJ w W2 #[.int .i64 0,.int .i64 4,.int .i64 tp,.string s,.bool false] #[.bool true] #[.bool (!tc)] W3) ?h11 ?k11
     case h11=>
      refine wpIn_wide.2 ?_;refine IZ ?_;intro hb0;refine bX (n:=11) (S:=fun w'=>w'.cell? ⟨bt,2,none⟩=some (.int .i64 tp)∧w'.cell? ⟨w.heap.size,0,none⟩=some (.string s)∧w'.cell? ⟨bt,4,none⟩=some (.bool tc)) (ds:=[10]) #[false,false,false,false,false,false,false,false,false,false,false] dL rfl rfl ⟨(Ac.out _ (hb0.block _ tC.out.2) (hb0.block _ (ay pq.out.b0))).1,(Ac.out _ (hb0.block _ tC.out.2) (hb0.block _ (ay pq.out.b0))).2.1,(Ac.out _ (hb0.block _ tC.out.2) (hb0.block _ (ay pq.out.b0))).2.2⟩ (fun hHeld=>?_);refine OT ?_;intro wd hwd;rw[←hwd]at hHeld⊢;refine NC ?_;intro B0;have K0:=hide (SJ.make pq.out B0.out);clear hwd hb0;refine pv 0 51 ?_;refine pv 1 52 ?_;refine pv 5 56 ?_;refine tv 2 53 hHeld ?_;refine tv 3 54 hHeld ?_;refine pv 4 55 ?_;refine tv 6 57 hHeld ?_;refine pv 7 58 ?_;refine iw (i:=8) (N:=none) #[true,true,true,true,true,true,true,true,true,false,false] rfl rfl dL wN (fun K hK=>?_);obtain⟨⟨⟨p0,r0⟩,⟨p1,r1⟩,⟨p2,r2⟩,⟨p3,r3⟩,⟨p4,r4⟩⟩,hB,hF⟩:=uZ (K0.out.b1) (.int .i64 0) (.int .i64 4) (.int .i64 tp) (.string s) (.bool false);refine gy (w1:=?_) Nr rfl ?_ ?_;rotate_left
      ·go_simp
       rfl
      clear p0 r0 p1 r1 p2 r2 p3 r3 p4 r4;obtain⟨w6,hw⟩:∃x,(((((wd.setCell ⟨w.heap.size+1,0,none⟩ (.int .i64 0)).setCell ⟨w.heap.size+1,1,none⟩ (.int .i64 4)).setCell ⟨w.heap.size+1,2,none⟩ (.int .i64 tp)).setCell ⟨w.heap.size+1,3,none⟩ (.string s)).setCell ⟨w.heap.size+1,4,none⟩ (.bool false))=x:=⟨_,rfl⟩;exact adr
     case k11=>
      rintro-W3 h1;refine ZG ?_;have HSJ:=hide h1;have hP:=HP.out;have HD4:=hide (show W3.heap[D2]?=some (.deferred (some []))from(h1.keep (ay HD3.out) (.inr HD2.out)).trans HD3.out);clear h1
      gi_wp2
      have hd1:=HD4.out;have hq1:=HSJ.out.b1;have hq2:=HSJ.out.b2;have hq3:=HSJ.out.b3;have hq4:Below w.heap.size w W3:=(pq.out.low.trans (HSJ.out.fr.below pq.out.low.size (by rintro k (rfl|rfl|rfl)<;>omega)));have hq5:=HD2.out;refine⟨qo,.inl ⟨_,_,rfl,run_takeDeferred hd1,?_⟩⟩;refine WB ?_;intro W9 Nc kp;refine I7 ?_;intro hfr a1 a2;have a3:W9.cell? ⟨w.heap.size+1+1+1,0,none⟩=some (.bool (!tc)):=(aj ((kp _ aG).trans hq3) 0).trans rfl;refine Y_ ?_;intro b0;have b1:W9.cell? ⟨w.heap.size+1,1,none⟩=some (.int .i64 4):=(aj a1 1).trans rfl;have b2:W9.cell? ⟨w.heap.size+1,2,none⟩=some (.int .i64 tp):=(aj a1 2).trans rfl;refine WJ ?_;intro b3 b4 Mg;exact⟨.tuple #[.agg #[.int .i64 0,.int .i64 4,.int .i64 tp,.string s,.bool false],.bool true,.bool (!tc)],rJ,rfl,hfr⟩
   |false=>
    have hN:(match(if s=bB then none else bO st.aN s)with
     |some t=>some (uE t,t.pos,!t.cst)
     |none=>if jE blt s then some (1,0,false)else none)=if jE blt s then some (1,0,false)else none:=by
     have h2:=R5.out;have h4:=HZD.out;by_cases e:s=bB
     ·rw[if_pos e]
     ·rw[if_neg e]
      have:zd=false:=by rw[←h4];exact decide_eq_false e
      subst this;have hk:k=false:=by revert hkd;cases k<;>decide
      subst hk;unfold kS at h2
      cases ht:bO st.aN s with
      |none=>rfl
      |some t=>rw[ht]at h2;cases h2
    have hPP:gH st en s=if jE blt s then some (1,0,false)else none:=by
     unfold gH;rw[gN.out];exact hN
    obtain⟨zb,hzb⟩:∃z,jE blt s=z:=⟨_,rfl⟩;rw[hzb]at hPP;have HP:=hide hPP;have HZB:=hide hzb;clear hN hPP hzb t1;obtain⟨nb,hnb⟩:∃n,blt.length=n:=⟨_,rfl⟩;have HBL:=hide (fun w=>rX w);rw[hnb]at HC HBL;rw[HZB.out]at HC;have afF:=hide (fun(W':World) (hb:Below W2.heap.size W2 W')=>show W'.cell? ⟨w.heap.size,0,none⟩=some (.string s)from(aj ((hb.block _ (ay pq.out.b0)).trans pq.out.b0) 0).trans rfl)
    cases k<;>cases zd<;>cases hkd
    all_goals
     gi_wp2
     clear e3 hzd;refine oh (fun v:Value=>[(59,v),(60,.string s),(61,.bool zb)]) (fun _ W3=>Below W2.heap.size W2 W3) ?h12 ?k12
     case h12=>
      refine wpIn_wide.2 ?_;refine IZ ?_;intro hb0;refine bX (n:=3) (S:=fun w'=>w'.cell? ⟨w.heap.size,0,none⟩=some (.string s)) (ds:=[2]) #[false,false,false] dL rfl rfl (afF.out _ hb0) (fun hHeld=>?_);refine OT ?_;intro wd hwd;rw[←hwd]at hHeld⊢;refine NC ?_;intro B0;clear hwd hb0;refine tv 1 60 hHeld ?_;refine iw (i:=0) (N:=some 59) #[true,true,false] rfl rfl dL wN (fun K hK=>?_);refine nQ Tryz.func16 dL rfl #[] Nr rfl rfl (by simp only[List.map_toArray,List.map_nil]) ?_;with_reducible refine(HBL.out _).mono ?_
      rintro e w3 ⟨A5,c5,rfl,El,Cg,h3⟩;refine⟨_,rfl,?_⟩;have L1:=hide (B0.out.trans (h3.mono B0.out.size));have Dk:=hide Cg;clear h3 Cg;refine hK.out _ _ (afF.out _ L1.out) (fun hHeld=>?_);clear hK K;refine cK (a':=?_) ?_ ?_;rotate_left
      ·show Act.put _ (some 59) _=_
       exact aad
      refine eF (i:=2) (N:=some 61) #[true,true,true] rfl rfl dL wN (fun K hK=>?_);refine nQ Tryz.func105 dL rfl #[.slice A5 nb c5,.string s] Nr rfl rfl jT ?_;with_reducible refine(HC.out A5 c5 _ El Dk.out).mono ?_
      rintro e w4 ⟨rfl,hd⟩;refine⟨_,rfl,?_⟩;have L2:=hide (L1.out.trans ((eD hd).mono L1.out.size));clear hd;refine hK.out _ _ ?_;clear hK K;refine cK (a':=?_) ?_ ?_;rotate_left
      ·show Act.put _ (some 61) _=_
       exact aad
      refine dP dL ?_;refine⟨rfl,.slice A5 nb c5,?_,L2.out⟩;exact ZR
     case k12=>
      rintro v W3 h1;refine ZG ?_;have hsj:=SJ.make pq.out h1;have e3:W3.cell? ⟨w.heap.size,0,none⟩=some (.string s):=afF.out _ h1;have HD4:=hide (show W3.heap[D2]?=some (.deferred (some []))from(h1.block _ (ay HD3.out)).trans HD3.out);have HSJ:=hide hsj;have HB3:=hide h1;clear h1
      cases zb
      ·obtain⟨⟨⟨p0,r0⟩,⟨p1,r1⟩,⟨p2,r2⟩,⟨p3,r3⟩,⟨p4,r4⟩⟩,hB,hF⟩:=uZ HSJ.out.b1 (.int .i64 0) (.int .i64 0) (.int .i64 0) (.string ⟨#[]⟩) (.bool false)
       have K5:=hide (HSJ.out.one hF hB);clear hF hB;have p5:(((((W3.setCell ⟨w.heap.size+1,0,none⟩ (.int .i64 0)).setCell ⟨w.heap.size+1,1,none⟩ (.int .i64 0)).setCell ⟨w.heap.size+1,2,none⟩ (.int .i64 0)).setCell ⟨w.heap.size+1,3,none⟩ (.string ⟨#[]⟩)).setCell ⟨w.heap.size+1,4,none⟩ (.bool false)).cell? ⟨w.heap.size+1+1,0,none⟩=some (.bool false):=(aj K5.out.b2 0).trans rfl;have r5:(((((W3.setCell ⟨w.heap.size+1,0,none⟩ (.int .i64 0)).setCell ⟨w.heap.size+1,1,none⟩ (.int .i64 0)).setCell ⟨w.heap.size+1,2,none⟩ (.int .i64 0)).setCell ⟨w.heap.size+1,3,none⟩ (.string ⟨#[]⟩)).setCell ⟨w.heap.size+1,4,none⟩ (.bool false)).frozen? ⟨w.heap.size+1+1,0,none⟩=false:=aQ K5.out.b2 0;have K6:=hide (K5.out.two (Fr.setCell (p:=⟨w.heap.size+1+1,0,none⟩) (Fr.refl (fun k=>k=w.heap.size+1+1) _) (.inl rfl) (.bool false)) (bT (cs':=#[.bool false]) K5.out.b2 0 (.bool false) rfl));have p6:((((((W3.setCell ⟨w.heap.size+1,0,none⟩ (.int .i64 0)).setCell ⟨w.heap.size+1,1,none⟩ (.int .i64 0)).setCell ⟨w.heap.size+1,2,none⟩ (.int .i64 0)).setCell ⟨w.heap.size+1,3,none⟩ (.string ⟨#[]⟩)).setCell ⟨w.heap.size+1,4,none⟩ (.bool false)).setCell ⟨w.heap.size+1+1,0,none⟩ (.bool false)).cell? ⟨w.heap.size+1+1+1,0,none⟩=some (.bool false):=(aj K6.out.b3 0).trans rfl;have r6:((((((W3.setCell ⟨w.heap.size+1,0,none⟩ (.int .i64 0)).setCell ⟨w.heap.size+1,1,none⟩ (.int .i64 0)).setCell ⟨w.heap.size+1,2,none⟩ (.int .i64 0)).setCell ⟨w.heap.size+1,3,none⟩ (.string ⟨#[]⟩)).setCell ⟨w.heap.size+1,4,none⟩ (.bool false)).setCell ⟨w.heap.size+1+1,0,none⟩ (.bool false)).frozen? ⟨w.heap.size+1+1+1,0,none⟩=false:=aQ K6.out.b3 0;refine VH ?_;intro K7
       gi_wp2
       clear p0 p1 p2 p3 p4 p5 p6 r0 r1 r2 r3 r4 r5 r6 e3;obtain⟨W8,hW8⟩:∃W8,(((((((W3.setCell ⟨w.heap.size+1,0,none⟩ (.int .i64 0)).setCell ⟨w.heap.size+1,1,none⟩ (.int .i64 0)).setCell ⟨w.heap.size+1,2,none⟩ (.int .i64 0)).setCell ⟨w.heap.size+1,3,none⟩ (.string ⟨#[]⟩)).setCell ⟨w.heap.size+1,4,none⟩ (.bool false)).setCell ⟨w.heap.size+1+1,0,none⟩ (.bool false)).setCell ⟨w.heap.size+1+1+1,0,none⟩ (.bool false))=W8:=⟨_,rfl⟩;rw[hW8]at K7⊢;clear hW8;have hP:=HP.out;have hd1:W8.heap[D2]?=some (.deferred (some [])):=(K7.out.fr.block _ (ay HD3.out) (by have:=HD2.out;omega)).trans HD3.out;have hq1:=K7.out.b1;have hq2:=K7.out.b2;have hq3:=K7.out.b3;have hq4:Below w.heap.size w W8:=pq.out.low.trans (K7.out.fr.below pq.out.low.size (by rintro k (rfl|rfl|rfl)<;>omega));have hq5:=HD2.out;simp only[if_true,if_false,Bool.false_eq_true]at hP;refine⟨qo,.inl ⟨_,_,rfl,run_takeDeferred hd1,?_⟩⟩;refine WG ?_;intro W9 Nc kp;have hfr:Below w.heap.size w W9:=by rw[←Nc];exact hq4.trans (iK aG _)
       have a1:=(kp _ aG).trans hq1;have a2:W9.cell? ⟨w.heap.size+1+1,0,none⟩=some (.bool false):=(aj ((kp _ aG).trans hq2) 0).trans rfl;have a3:W9.cell? ⟨w.heap.size+1+1+1,0,none⟩=some (.bool false):=(aj ((kp _ aG).trans hq3) 0).trans rfl;refine Y_ ?_;intro b0;have b1:W9.cell? ⟨w.heap.size+1,1,none⟩=some (.int .i64 0):=(aj a1 1).trans rfl;have b2:W9.cell? ⟨w.heap.size+1,2,none⟩=some (.int .i64 0):=(aj a1 2).trans rfl;have b3:W9.cell? ⟨w.heap.size+1,3,none⟩=some (.string ⟨#[]⟩):=(aj a1 3).trans rfl;have b4:W9.cell? ⟨w.heap.size+1,4,none⟩=some (.bool false):=(aj a1 4).trans rfl;rw[Nc];have Mg:=HRV.out;unfold nT at Mg;rw[hP]at Mg;rw[←Mg];exact⟨.tuple #[.agg #[.int .i64 0,.int .i64 0,.int .i64 0,.string ⟨#[]⟩,.bool false],.bool false,.bool false],rJ,rfl,hfr⟩
      ·obtain⟨⟨⟨p0,r0⟩,⟨p1,r1⟩,⟨p2,r2⟩,⟨p3,r3⟩,⟨p4,r4⟩⟩,hB,hF⟩:=uZ HSJ.out.b1 (.int .i64 0) (.int .i64 1) (.int .i64 0) (.string s) (.bool false)
       have K5:=hide (HSJ.out.one hF hB);clear hF hB;have p5:(((((W3.setCell ⟨w.heap.size+1,0,none⟩ (.int .i64 0)).setCell ⟨w.heap.size+1,1,none⟩ (.int .i64 1)).setCell ⟨w.heap.size+1,2,none⟩ (.int .i64 0)).setCell ⟨w.heap.size+1,3,none⟩ (.string s)).setCell ⟨w.heap.size+1,4,none⟩ (.bool false)).cell? ⟨w.heap.size+1+1,0,none⟩=some (.bool false):=(aj K5.out.b2 0).trans rfl;have r5:(((((W3.setCell ⟨w.heap.size+1,0,none⟩ (.int .i64 0)).setCell ⟨w.heap.size+1,1,none⟩ (.int .i64 1)).setCell ⟨w.heap.size+1,2,none⟩ (.int .i64 0)).setCell ⟨w.heap.size+1,3,none⟩ (.string s)).setCell ⟨w.heap.size+1,4,none⟩ (.bool false)).frozen? ⟨w.heap.size+1+1,0,none⟩=false:=aQ K5.out.b2 0;have K6:=hide (K5.out.two (Fr.setCell (p:=⟨w.heap.size+1+1,0,none⟩) (Fr.refl (fun k=>k=w.heap.size+1+1) _) (.inl rfl) (.bool true)) (bT (cs':=#[.bool true]) K5.out.b2 0 (.bool true) rfl));have p6:((((((W3.setCell ⟨w.heap.size+1,0,none⟩ (.int .i64 0)).setCell ⟨w.heap.size+1,1,none⟩ (.int .i64 1)).setCell ⟨w.heap.size+1,2,none⟩ (.int .i64 0)).setCell ⟨w.heap.size+1,3,none⟩ (.string s)).setCell ⟨w.heap.size+1,4,none⟩ (.bool false)).setCell ⟨w.heap.size+1+1,0,none⟩ (.bool true)).cell? ⟨w.heap.size+1+1+1,0,none⟩=some (.bool false):=(aj K6.out.b3 0).trans rfl;have r6:((((((W3.setCell ⟨w.heap.size+1,0,none⟩ (.int .i64 0)).setCell ⟨w.heap.size+1,1,none⟩ (.int .i64 1)).setCell ⟨w.heap.size+1,2,none⟩ (.int .i64 0)).setCell ⟨w.heap.size+1,3,none⟩ (.string s)).setCell ⟨w.heap.size+1,4,none⟩ (.bool false)).setCell ⟨w.heap.size+1+1,0,none⟩ (.bool true)).frozen? ⟨w.heap.size+1+1+1,0,none⟩=false:=aQ K6.out.b3 0;refine VH ?_;intro K7
       gi_wp2
       clear p0 p1 p2 p3 p4 p5 p6 r0 r1 r2 r3 r4 r5 r6 e3;obtain⟨W8,hW8⟩:∃W8,(((((((W3.setCell ⟨w.heap.size+1,0,none⟩ (.int .i64 0)).setCell ⟨w.heap.size+1,1,none⟩ (.int .i64 1)).setCell ⟨w.heap.size+1,2,none⟩ (.int .i64 0)).setCell ⟨w.heap.size+1,3,none⟩ (.string s)).setCell ⟨w.heap.size+1,4,none⟩ (.bool false)).setCell ⟨w.heap.size+1+1,0,none⟩ (.bool true)).setCell ⟨w.heap.size+1+1+1,0,none⟩ (.bool false))=W8:=⟨_,rfl⟩;rw[hW8]at K7⊢;clear hW8;have hP:=HP.out;have hd1:W8.heap[D2]?=some (.deferred (some [])):=(K7.out.fr.block _ (ay HD3.out) (by have:=HD2.out;omega)).trans HD3.out;have hq1:=K7.out.b1;have hq2:=K7.out.b2;have hq3:=K7.out.b3;have hq4:Below w.heap.size w W8:=pq.out.low.trans (K7.out.fr.below pq.out.low.size (by rintro k (rfl|rfl|rfl)<;>omega));have hq5:=HD2.out;simp only[if_true,if_false,Bool.false_eq_true]at hP;refine⟨qo,.inl ⟨_,_,rfl,run_takeDeferred hd1,?_⟩⟩;refine WG ?_;intro W9 Nc kp;refine I7 ?_;intro hfr a1 a2;have a3:W9.cell? ⟨w.heap.size+1+1+1,0,none⟩=some (.bool false):=(aj ((kp _ aG).trans hq3) 0).trans rfl;refine Y_ ?_;intro b0;have b1:W9.cell? ⟨w.heap.size+1,1,none⟩=some (.int .i64 1):=(aj a1 1).trans rfl;have b2:W9.cell? ⟨w.heap.size+1,2,none⟩=some (.int .i64 0):=(aj a1 2).trans rfl;refine WJ ?_;intro b3 b4 Mg;exact⟨.tuple #[.agg #[.int .i64 0,.int .i64 1,.int .i64 0,.string s,.bool false],.bool true,.bool false],rJ,rfl,hfr⟩
 case hstop=>
  intro D2 W hD2 hx hK
  gi_wp2
  obtain⟨d,hd,q1,q2,q3⟩:=hx.hit;have hsz:=HS.out.sz;have hP:gH st en s=some (2,d.pos,d.free):=by unfold gH;rw[hd]
  have hd1:=hK;have hq1:=q1;have hq2:=q2;have hq3:=q3;have hq4:Below w.heap.size w W:=HS.out.low.trans (hx.fr.below (B:=w.heap.size) HS.out.low.size (by rintro k (rfl|rfl|rfl)<;>omega));have hq5:w.heap.size+5≤D2:=aG;refine⟨qo,.inl ⟨_,_,rfl,run_takeDeferred hd1,?_⟩⟩;obtain⟨W9,Nc⟩:∃W9,W.putObj D2 (Obj.deferred none)=W9:=⟨_,rfl⟩;have kp:∀k,k<D2→W9.heap[k]?=W.heap[k]?:=fun k hk=>by rw[←Nc];exact World.putObj_heap_other aG
  refine I7 ?_;intro hfr a1 a2;have a3:W9.cell? ⟨w.heap.size+1+1+1,0,none⟩=some (.bool d.free):=(aj ((kp _ aG).trans hq3) 0).trans rfl;refine Y_ ?_;intro b0;have b1:W9.cell? ⟨w.heap.size+1,1,none⟩=some (.int .i64 2):=(aj a1 1).trans rfl;have b2:W9.cell? ⟨w.heap.size+1,2,none⟩=some (.int .i64 d.pos):=(aj a1 2).trans rfl;refine WJ ?_;intro b3 b4 Mg;exact⟨.tuple #[.agg #[.int .i64 0,.int .i64 2,.int .i64 d.pos,.string s,.bool false],.bool true,.bool d.free],rJ,rfl,hfr⟩
end Go.Proofs.YtldgmneijipbjaaGreatDoor.H
