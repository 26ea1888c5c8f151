import Derived.Test.YtldgmneijipbjaaGreatDoorBU2
import Derived.Test.YtldgmneijipbjaaGreatDoorBF0
import Derived.Test.YtldgmneijipbjaaGreatDoorBMac
set_option linter.unusedVariables false
set_option linter.unusedSimpArgs false
set_option maxRecDepth 100000
set_option maxHeartbeats 16000000
namespace Go.Proofs.YtldgmneijipbjaaGreatDoor.H
open Go.RowKit Go.Maps Go.WideMaps Go.Shelf Go.Proofs.YtldgmneijipbjaaGreatDoorW.PrintWords Go.Proofs.YtldgmneijipbjaaGreatDoorW.PrintLast Go.Proofs.YtldgmneijipbjaaGreatDoorW.PrintMore
open PScopeOwn
abbrev Ab:Value:= .agg #[.string ⟨#[]⟩,.int .i64 0,.int .i64 0,.int .i64 0,.bool false]
abbrev xH:Value:= .agg #[.int .i64 0,.int .i64 0,.int .i64 0,.string ⟨#[]⟩,.bool false]
abbrev afz:Value:= .agg #[.int .i64 0,.int .i64 0,.bool false]
theorem xI:(Tryz.prog.info? 43).map (fun i=>(i.zero,i.size,i.bytes))=some (some Ab,5,48):=dL
theorem jZ:(Tryz.prog.info? 37).map (fun i=>(i.zero,i.size,i.bytes))=some (some xH,5,48):=dL
theorem PW:(Tryz.prog.info? 97).map (fun i=>(i.zero,i.size,i.bytes))=some (some (.map none),1,8):=dL
theorem kT (w:World):(zeroValue 43).run Tryz.prog w= .ok Ab w:=dL
theorem xJ (w:World):(zeroValue 99).run Tryz.prog w= .ok afz w:=dL
section
variable {ops:Array Oper} {oi:Oper} {a:Act} {w:World} {K:Act→World→Prop} {Q:Exit→Act→World→Prop}
theorem Vi (hw:Region.wanted oi (yielded ops a.tmps)=true)(hN:oi.dst=none)(m x y:Operand)(t:TypeId)(hop:oi.op=Op.mapUpdate t m x y)(e:TypeId)(ht:Tryz.prog.underlying t=some (.map 9 e))(b n c:Nat)(f:ByteArray→Option Value)
  (hm:a.eval m= .map (some b))(h:dY w b n f c)(hn:n<maxLen)(s:ByteArray)(hx:a.eval x= .string s)(hs:s.size≤maxLen)(v:Value)(hv:a.eval y=v)
  (hK:∀w',dY w' b (n+1) (fun t=>if t=s then some v else f t) (if(f s).isSome then c else c+1)→w.grownBy w' (some b)→K a w'):if Region.wanted oi (yielded ops a.tmps)=true then Oper.wp Tryz.prog oi a w K Q else K (a.put none undef) w:=by
 have hh:=h;obtain⟨D,h1,h2,h3,h4⟩:=h;obtain⟨w',hrun,r1,r2⟩:=h1.update Uh ht hn (keyOf_string_mk Tryz.underlying9 hs) (show zM v=some (.held v,[])from rfl);refine gy (w1:=w') hw hN ?_ (hK w' (hh.put s v h1 h2 h3 h4 r1) r2);simp[execOp,hop,hm,hx,hv,hrun,Result.andThen]
end
section
variable {D:Nat} {w w':World} {m:FM} {st:PS} {en:En}
theorem RP {l:List dA}{t:dA}(h:bO l t.name=none):(fun s=>if s=t.name then some t.val else kS l s)=kS (l++[t]):=by
 funext s
 unfold kS bO;rw[List.find?_append];by_cases e:s=t.name
 ·subst e
  rw[if_pos rfl];unfold bO at h;rw[h];simp
 ·rw[if_neg e]
  have:List.find? (fun u=>decide (u.name=s)) [t]=none:=by simp[Ne.symm e]
  rw[this]
  cases List.find? (fun u=>decide (u.name=s)) l<;>rfl
theorem Fin.afA (h:Fin D w m st en){t:dA}{v1:Value}(hm:dY w' m.mt (st.aN.length+1) (kS (st.aN++[t])) (st.aN.length+1))
  (hl:K5.R 43 w' D (fun k=>D≤k) v1 (st.aN.map dA.cs++[t.cs]))(hb:w'.heap[m.g]?=some (.cells (({m with vl:=v1}:FM).cells {st with aN:=st.aN++[t]} en) 56 (0,0)))
  (hk:∀k,k≠m.g→k≠m.mt→¬bQ m.vl k→m.own k→w'.heap[k]?=w.heap[k]?):Fin D w' {m with vl:=v1} {st with aN:=st.aN++[t]} en:=by
 obtain⟨n1,n2,n3,n4,n5,n6⟩:=h.qj;obtain⟨c0,q0⟩:=h.mg;obtain⟨r1,r2,r3⟩:=h.qM h.mt.blk;obtain⟨s1,s2,s3⟩:=h.qM q0.blk;obtain⟨m1,m2,m3⟩:=h.mne
 have apart:∀k,bQ m.vl k→¬bQ m.vu k∧¬bQ m.vs k:=fun k hv=>by
  obtain⟨cs,q⟩:=Kd.dO h.vl k hv;refine⟨fun e=>?_,fun e=>?_⟩
  ·obtain⟨cs',q'⟩:=Kd.dO h.vu k e;rw[q]at q';cases q'
  ·obtain⟨cs',q'⟩:=Kd.dO h.vs k e;rw[q]at q';cases q'
 refine⟨hb,by rw[List.length_append];exact hm,⟨c0,q0.same (hk _ n2.symm m1.symm s1 (.inr (.inr (.inl rfl))))⟩,by rw[List.map_append];exact hl,?_,?_,h.len,fun i b l hb2 hl2=>?_,h.lg,h.lt,h.lm,h.ls,h.ne⟩
 ·exact bW rfl h.vu (fun k q=>hk k (fun e=>n4 (e▸q)) (fun e=>r2 (e▸q)) (fun e=>(apart k e).1 q) (.inr (.inr (.inr (.inr (.inl q))))))
 ·exact bW rfl h.vs (fun k q=>hk k (fun e=>n5 (e▸q)) (fun e=>r3 (e▸q)) (fun e=>(apart k e).2 q) (.inr (.inr (.inr (.inr (.inr (.inl q)))))))
 ·have hmem:=List.mem_of_getElem? hb2
  obtain⟨c,q⟩:=h.sc i b l hb2 hl2;exact⟨c,q.same (hk _ (fun e=>n6 (e▸hmem)) (fun e=>m2 (e▸hmem)) (h.qM q.blk).1 (.inr (.inr (.inr (.inr (.inr (.inr hmem)))))))⟩
end
theorem RX {D:Nat}{w:World}{m:FM}{st:PS}{en:En}(h:Fin D w m st en)(s:ByteArray)(kind pos item:Int)(free:Bool)(hs:s.size≤1099511627776)(t:dA)(ht:bO st.aN s=some t):
  Calls Tryz.prog 37 #[.pointer (some ⟨m.g,0,none⟩),.string s,.int .i64 kind,.int .i64 pos,.int .i64 item,.bool free] w fun r w'=>r= .returned (.tuple #[])∧Fin D w' m (st.fail 90 pos) en∧Fr (fun k=>k=m.g) w w':=by
 have c0:w.cell? ⟨m.g,0,none⟩=some (.map (some m.mt)):=(aj h.blk 0).trans rfl;have sF:=hide (show s.size≤maxLen from aqT);have yA:=hide h.mt;have HT:=hide (show kS st.aN s=some t.val from by unfold kS;rw[ht];rfl);have H:=hide h;clear h ht;go_enter Tryz.func37,Tryz.ntmps37;go_wp2_with (first|(at_lookup;refine fE _ rfl _ _ 52 rfl 43 Tryz.underlying52 (kT _) m.mt _ _ (kS st.aN) rfl yA.out s rfl sF.out t.val Ox true Ox ?_;unfold dA.val)|(go_at_call 77;refine(jf (H.out.below (au (Below.refl _ _) _)) 90 pos).mono ?_;rintro e w3 ⟨rfl,hf3,hr3⟩;have zP:=hide (And.intro hf3 hr3);clear hf3 hr3));exact adq
structure Tpd (D:Nat)(m:FM)(st:PS)(en:En)(w w':World):Prop where
 fin:∃v1,Fin D w' {m with vl:=v1} st en∧(OwnAt w m.vl v1)
 fr:Fr (fun k=>k=m.g∨k=m.mt∨bQ m.vl k) w w'
theorem Tpd.make {D:Nat}{w W2 wd w4 we w6:World}{m:FM}{st:PS}{en:En}{t:dA}{v1:Value}{c:Nat}(H:Fin D w m st en)(h0:Below w.heap.size w W2)(h1:Below W2.heap.size W2 wd)(hg4:wd.grownBy w4 (some m.mt))(h5:Below w4.heap.size w4 we)(qx:we.grownBy w6 m.vl.ownBlock)
  (ha:bO st.aN t.name=none)(hm:dY w4 m.mt (st.aN.length+1) (fun s=>if s=t.name then some t.val else kS st.aN s) c)(hc:c=st.aN.length+1)(hl:K5.R 43 w6 D (fun k=>D≤k) v1 (st.aN.map dA.cs++[t.cs]))(hat:v1.ownBlock=m.vl.ownBlock∨∃b,v1.ownBlock=some b∧we.heap.size≤b):
  Tpd D m {st with aN:=st.aN++[t]} en w (w6.setCell ⟨m.g,1,none⟩ v1):=by
 subst hc;obtain⟨n1,n2,n3,n4,n5,n6⟩:=H.qj;obtain⟨r1,r2,r3⟩:=H.qM H.mt.blk;have s0:=h0.size;have s1:=h1.size;have s4:=hg4.size;have s5:=h5.size;have lg:=H.hi _ (.inl rfl);have lm:=H.hi _ (.inr (.inl rfl));have k4:∀k,k<w.heap.size→k≠m.mt→w4.heap[k]?=w.heap[k]?:=fun k hk hn=>(hg4.block k aG (by simpa using hn)).trans ((h1.block k aG).trans (h0.block k hk));have k6:∀k,k<w4.heap.size→¬bQ m.vl k→w6.heap[k]?=w4.heap[k]?:=fun k hk hn=>(qx.block k aG (fun e=>hn e.symm)).trans (h5.block k hk);have g6:w6.heap[m.g]?=w.heap[m.g]?:=(k6 _ aG n3).trans (k4 _ lg n1)
 have hne1:¬bQ v1 m.g:=fun e=>by
  unfold bQ at e;rcases hat with q|⟨b,q,hb⟩
  ·exact n3 wC
  ·rw[q]at e;cases e;omega
 have hF:Fr (fun k=>k=m.g∨k=m.mt∨bQ m.vl k) w (w6.setCell ⟨m.g,1,none⟩ v1):=by
  refine Fr.setCell (p:=⟨m.g,1,none⟩) ?_ (.inl (.inl rfl)) _;refine Fr.grown ?_ qx (fun k e=> .inl (.inr (.inr e)));refine Fr.more ?_ h5;refine Fr.grown ?_ hg4 (fun k e=> .inl (.inr (.inl (Option.some.inj e).symm)));exact(Fr.of_below h0).more h1
 refine⟨⟨v1,H.afA ?_ ?_ ?_ (fun k a b d ho=>hF.block k (H.hi k ho) (fun e=>e.elim a (fun e=>e.elim b d))),?_⟩,hF⟩
 ·rw[←RP ha]
  exact hm.same ((Below.heap_setCell _ _ _ _ n1.symm).trans (k6 _ aG r1))
 ·exact bW rfl hl (fun k q=>Below.heap_setCell _ _ _ _ (fun e=>hne1 ((show k=m.g from e)▸q)))
 ·exact bT (cs':=({m with vl:=v1}:FM).cells {st with aN:=st.aN++[t]} en) (g6.trans H.blk) 1 v1 rfl
 ·rcases hat with q|⟨b,q,hb⟩
  ·exact .inl q
  ·exact .inr ⟨b,q,aG⟩
theorem aa9 {D:Nat}{w:World}{m:FM}{st:PS}{en:En}(h:Fin D w m st en)(s:ByteArray)(kind pos item:Int)(free:Bool)(hs:s.size≤1099511627776)(hn:st.aN.length≤1099511627776)(ht:bO st.aN s=none):
  Calls Tryz.prog 37 #[.pointer (some ⟨m.g,0,none⟩),.string s,.int .i64 kind,.int .i64 pos,.int .i64 item,.bool free] w fun r w'=>r= .returned (.tuple #[])∧Tpd D m {st with aN:=st.aN++[⟨s,kind,pos,item,!free⟩]} en w w':=by
 refine Vk ?_;intro c0 sF yA HT H;have gN:=hide ht;obtain⟨W2,hW2⟩:∃W2,(w.alloc (.cells #[.string ⟨#[]⟩,.int .i64 0,.int .i64 0,.int .i64 0,.bool false] 43)).alloc (.cells #[.string s,.int .i64 kind,.int .i64 pos,.int .i64 item,.bool (!free)] 43)=W2:=⟨_,rfl⟩;have HW2:=hide (show Below w.heap.size w W2 from hW2▸au (au (Below.refl _ _) _) _)
 have hblk:W2.heap[w.heap.size+1]?=some (.cells #[.string s,.int .i64 kind,.int .i64 pos,.int .i64 item,.bool (!free)] 43 (0,0)):=by
  rw[←hW2];have:=aR (w.alloc (.cells #[.string ⟨#[]⟩,.int .i64 0,.int .i64 0,.int .i64 0,.bool false] 43)) (.cells #[.string s,.int .i64 kind,.int .i64 pos,.int .i64 item,.bool (!free)] 43)
  rwa[World.size_alloc]at this
 have dI:=hide hblk;have Dj:=hide ((HW2.out.block _ (h.hi _ (.inl rfl))).trans h.blk);have HG:=hide (show m.g<w.heap.size from h.hi _ (.inl rfl));have hS2:W2.heap.size=w.heap.size+2:=by rw[←hW2];simp
 have HS2:=hide hS2;clear h ht hblk hS2;go_enter Tryz.func37,Tryz.ntmps37;go_wp2_with (first|(at_lookup;refine fE _ rfl _ _ 52 rfl 43 Tryz.underlying52 (kT _) m.mt _ _ (kS st.aN) rfl yA.out s rfl sF.out Ab Ox false Ox ?_));clear hW2 c0;have HC:=hide (fun(W:World) (hb:Below W2.heap.size W2 W)=>show W.cell? ⟨m.g,0,none⟩=some (.map (some m.mt))∧W.cell? ⟨w.heap.size+1,0,none⟩=some (.string s)∧W.cell? ⟨w.heap.size+1,1,none⟩=some (.int .i64 kind)∧W.cell? ⟨w.heap.size+1,2,none⟩=some (.int .i64 pos)∧W.cell? ⟨w.heap.size+1,3,none⟩=some (.int .i64 item)∧W.cell? ⟨w.heap.size+1,4,none⟩=some (.bool (!free))from⟨(aj ((hb.block _ (ay Dj.out)).trans Dj.out) 0).trans rfl,(aj ((hb.block _ (ay dI.out)).trans dI.out) 0).trans rfl,(aj ((hb.block _ (ay dI.out)).trans dI.out) 1).trans rfl,(aj ((hb.block _ (ay dI.out)).trans dI.out) 2).trans rfl,(aj ((hb.block _ (ay dI.out)).trans dI.out) 3).trans rfl,(aj ((hb.block _ (ay dI.out)).trans dI.out) 4).trans rfl⟩);refine IZ ?_;intro hb0;refine bX (n:=7) (S:=fun w'=>w'.cell? ⟨m.g,0,none⟩=some (.map (some m.mt))∧w'.cell? ⟨w.heap.size+1,0,none⟩=some (.string s)∧w'.cell? ⟨w.heap.size+1,1,none⟩=some (.int .i64 kind)∧w'.cell? ⟨w.heap.size+1,2,none⟩=some (.int .i64 pos)∧w'.cell? ⟨w.heap.size+1,3,none⟩=some (.int .i64 item)∧w'.cell? ⟨w.heap.size+1,4,none⟩=some (.bool (!free))) (ds:=[6]) #[false,false,false,false,false,false,false] dL rfl rfl (HC.out _ hb0) (fun hHeld=>?_);refine OT ?_;intro wd hwd;rw[←hwd]at hHeld⊢;refine NC ?_;intro B0;clear hwd hb0;refine pv 0 35 ?_;refine pv 1 36 ?_;refine pv 2 37 ?_;refine pv 4 39 ?_;refine tv 3 38 hHeld ?_;refine tv 5 40 hHeld ?_;refine eF (i:=6) (N:=none) #[true,true,true,true,true,true,true] rfl rfl dL wN (fun K hK=>?_);refine Vi Nr rfl _ _ _ 52 rfl 43 Tryz.underlying52 m.mt _ _ (kS st.aN) rfl ((yA.out.same (HW2.out.block _ yA.out.lt)).same (B0.out.block _ (Nat.lt_of_lt_of_le yA.out.lt HW2.out.size))) aqT s rfl sF.out _ rfl ?_;intro w4 hm4 hg4;have HM4:=hide hm4;have PX:=hide hg4;clear hm4 hg4;refine hK.out _ _ ?_;clear hK K;refine dP dL ?_;go_wp2;have FT:=hide (show w4.heap[m.g]?=some (.cells (m.cells st en) 56 (0,0))from(PX.out.block _ (by have:=B0.out.size;have:=HW2.out.size;have:=HG.out;omega) (by have:=H.out.qj.1;simpa using this)).trans ((B0.out.block _ (ay Dj.out)).trans Dj.out));have Dw:=hide (show w4.heap[w.heap.size+1]?=some (.cells #[.string s,.int .i64 kind,.int .i64 pos,.int .i64 item,.bool (!free)] 43 (0,0))from(PX.out.block _ (by have:=B0.out.size;have:=HS2.out;omega) (by have:=yA.out.lt;simp;omega)).trans ((B0.out.block _ (ay dI.out)).trans dI.out));have Dk:=hide (fun(W:World) (hb:Below w4.heap.size w4 W)=>show W.cell? ⟨m.g,1,none⟩=some (m.vl)∧W.cell? ⟨w.heap.size+1,0,none⟩=some (.string s)∧W.cell? ⟨w.heap.size+1,1,none⟩=some (.int .i64 kind)∧W.cell? ⟨w.heap.size+1,2,none⟩=some (.int .i64 pos)∧W.cell? ⟨w.heap.size+1,3,none⟩=some (.int .i64 item)∧W.cell? ⟨w.heap.size+1,4,none⟩=some (.bool (!free))from⟨(aj ((hb.block _ (ay FT.out)).trans FT.out) 1).trans rfl,(aj ((hb.block _ (ay Dw.out)).trans Dw.out) 0).trans rfl,(aj ((hb.block _ (ay Dw.out)).trans Dw.out) 1).trans rfl,(aj ((hb.block _ (ay Dw.out)).trans Dw.out) 2).trans rfl,(aj ((hb.block _ (ay Dw.out)).trans Dw.out) 3).trans rfl,(aj ((hb.block _ (ay Dw.out)).trans Dw.out) 4).trans rfl⟩);have HD:=hide (show D≤w4.heap.size from Nat.le_trans H.out.lg (Nat.le_of_lt (ay FT.out)))
 have HL4:=hide (show K5.R 43 w4 D (fun k=>D≤k) m.vl (st.aN.map dA.cs)from bW rfl H.out.vl (fun k q=>by
  have hk:=Kd.vF H.out.vl k q;have hne:=(H.out.qM H.out.mt.blk).1;exact(PX.out.block _ (by have:=B0.out.size;have:=HW2.out.size;omega) (fun e=>hne ((Option.some.inj e)▸q))).trans ((B0.out.block _ (by have:=HW2.out.size;omega)).trans (HW2.out.block _ hk))))
 have hb0:Below w4.heap.size w4 w4.drew:=bq (Below.refl _ _);refine bX (n:=11) (S:=fun w'=>w'.cell? ⟨m.g,1,none⟩=some (m.vl)∧w'.cell? ⟨w.heap.size+1,0,none⟩=some (.string s)∧w'.cell? ⟨w.heap.size+1,1,none⟩=some (.int .i64 kind)∧w'.cell? ⟨w.heap.size+1,2,none⟩=some (.int .i64 pos)∧w'.cell? ⟨w.heap.size+1,3,none⟩=some (.int .i64 item)∧w'.cell? ⟨w.heap.size+1,4,none⟩=some (.bool (!free))) (ds:=[7,10]) #[false,false,false,false,false,false,false,false,false,false,false] dL rfl rfl (Dk.out _ hb0) (fun hHeld=>?_);obtain⟨we,hwd⟩:∃wd,wd=w4.drew:=⟨_,rfl⟩;rw[←hwd]at hHeld⊢;have E0:=hide (show Below w4.heap.size w4 we from gX);clear hwd hb0;refine pv 0 41 ?_;refine pv 1 42 ?_;refine pv 2 43 ?_;refine pv 3 44 ?_;refine tv 4 45 hHeld ?_;refine tv 5 46 hHeld ?_;refine iw (i:=6) (N:=some 47) #[true,true,true,true,true,true,true,false,false,false,false] rfl rfl dL wN (fun K hK=>?_);refine gW (w1:=?_) (v:=?_) Nr rfl ?_ ?_;rotate_left 2
 ·exact Xt
 have E1:=hide (E0.out.trans ((au (Below.refl we.heap.size we) (.cells #[.string s,.int .i64 kind,.int .i64 pos,.int .i64 item,.bool (!free)] 43)).mono E0.out.size));refine hK.out _ _ (Dk.out _ E1.out) (fun hHeld=>?_);clear hK K;refine cK (a':=?_) ?_ ?_;rotate_left
 ·show Act.put _ (some 47) _=_
  exact aad
 refine eF (i:=7) (N:=some 48) #[true,true,true,true,true,true,true,true,false,false,false] rfl rfl dL wN (fun K hK=>?_);refine Kd.cZ K5 (w0:=we) D Nr (.tmp 45) (.tmp 47) 25 43 Ab 48 rfl Tryz.underlying25 xI rfl wN aG m.vl (st.aN.map dA.cs) (dA.cs (⟨s,kind,pos,item,!free⟩:dA)) [.string s,.int .i64 kind,.int .i64 pos,.int .i64 item,.bool (!free)] (fun k=>D≤k) (fun _=>False) rfl rfl ⟨rfl,rfl,eU⟩ (fun _ hk=>hk.elim) (fun k hk=>Nat.le_trans HD.out (Nat.le_trans E0.out.size hk)) (Kd.bS HL4.out E0.out) (Below.refl _ _) (Nat.le_trans HD.out E0.out.size) za ?_;intro v1 w6 h1 h2 h3 h4;obtain⟨A9,c9,rfl,-,-⟩:=Kd.bL h1;rw[show(st.aN.map dA.cs++[dA.cs (⟨s,kind,pos,item,!free⟩:dA)]).length=st.aN.length+1 from qo]at h1 h4;have F1:=hide h1;have F3:=hide h3;have F4:=hide h4;clear h1 h2 h3 h4;have f6:=aQ ((F3.out.block _ (Nat.lt_of_lt_of_le (ay FT.out) E0.out.size) (fun e=>H.out.qj.2.2.1 e.symm)).trans ((E0.out.block _ (ay FT.out)).trans FT.out)) 1;have e6:=(aj ((F3.out.block _ (Nat.lt_of_lt_of_le (ay FT.out) E0.out.size) (fun e=>H.out.qj.2.2.1 e.symm)).trans ((E0.out.block _ (ay FT.out)).trans FT.out)) 1).trans rfl;refine hK.out _ _ ?_;clear hK K;refine cK (a':=?_) ?_ ?_;rotate_left
 ·show Act.put _ (some 48) _=_
  exact aad
 refine pv 8 49 ?_;refine pv 9 50 ?_;refine eF (i:=10) (N:=none) #[true,true,true,true,true,true,true,true,true,true,true] rfl rfl dL wN (fun K hK=>?_);refine gy (w1:=?_) Nr rfl ?_ ?_;rotate_left
 ·go_simp
  rfl
 refine hK.out _ _ ?_;clear hK K;refine dP dL ?_;go_wp2;go_end0;exact⟨rfl,Tpd.make (t:=(⟨s,kind,pos,item,!free⟩:dA)) H.out HW2.out B0.out PX.out E0.out F3.out gN.out HM4.out Ox F1.out F4.out⟩
theorem Tpd.same {D:Nat}{w w':World}{m:FM}{st':PS}{en':En}(h:Fin D w' m st' en')(hf:Fr (fun k=>k=m.g) w w'):Tpd D m st' en' w w':=⟨⟨m.vl,h,.inl rfl⟩,hf.mono (fun k hk=> .inl hk)⟩
theorem rV {D:Nat}{w:World}{m:FM}{st:PS}{en:En}(h:Fin D w m st en)(s:ByteArray)(kind pos item:Int)(free:Bool)(hs:s.size≤1099511627776)(hn:st.aN.length≤1099511627776):
  Calls Tryz.prog 37 #[.pointer (some ⟨m.g,0,none⟩),.string s,.int .i64 kind,.int .i64 pos,.int .i64 item,.bool free] w fun r w'=>r= .returned (.tuple #[])∧Tpd D m (st.top s kind pos item free) en w w':=by
 cases ht:bO st.aN s with
 |some t=>
  rw[show st.top s kind pos item free=st.fail 90 pos from by unfold PS.top;rw[ht];rfl];refine(RX h s kind pos item free hs t ht).mono ?_;rintro e w' ⟨rfl,h1,h2⟩;exact⟨rfl,Tpd.same h1 h2⟩
 |none=>
  rw[show st.top s kind pos item free={st with aN:=st.aN++[⟨s,kind,pos,item,!free⟩]}from by unfold PS.top;rw[ht];rfl];exact aa9 h s kind pos item free hs hn ht
end Go.Proofs.YtldgmneijipbjaaGreatDoor.H
