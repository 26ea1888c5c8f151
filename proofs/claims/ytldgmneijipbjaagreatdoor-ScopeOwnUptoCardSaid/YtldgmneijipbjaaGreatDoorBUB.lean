import Derived.Test.YtldgmneijipbjaaGreatDoorBU9
import Derived.Test.YtldgmneijipbjaaGreatDoorBF0
import Derived.Test.YtldgmneijipbjaaGreatDoorBMac
set_option linter.unusedVariables false
set_option linter.unusedSimpArgs false
set_option maxRecDepth 100000
set_option maxHeartbeats 16000000
namespace Go.Proofs.YtldgmneijipbjaaGreatDoor.H
open Go.RowKit Go.Shelf Go.Maps Go.WideMaps Go.Proofs.YtldgmneijipbjaaGreatDoorW.PrintWords Go.Proofs.YtldgmneijipbjaaGreatDoorW.PrintLast Go.Proofs.YtldgmneijipbjaaGreatDoorW.PrintMore
open PScopeOwn
structure FM.Up (w:World)(m m':FM):Prop where
 g:m'.g=m.g
 mt:m'.mt=m.mt
 mg:m'.mg=m.mg
 vl:m'.vl=m.vl
 ms:m'.ms=m.ms
 vu:OwnAt w m.vu m'.vu
 vs:OwnAt w m.vs m'.vs
theorem FM.Up.refl (w:World)(m:FM):m.Up w m:=⟨rfl,rfl,rfl,rfl,rfl,.inl rfl,.inl rfl⟩
theorem FM.Up.trans {w w1:World}{m m1 m2:FM}(h:m.Up w m1)(k:m1.Up w1 m2)(hs:w.heap.size≤w1.heap.size):m.Up w m2:=
 ⟨k.g.trans h.g,k.mt.trans h.mt,k.mg.trans h.mg,k.vl.trans h.vl,k.ms.trans h.ms,h.vu.trans k.vu hs,h.vs.trans k.vs hs⟩
theorem FM.Up.own {w:World}{m m':FM}(h:m.Up w m')(k:Nat)(hk:m'.own k):m.own k∨w.heap.size≤k:=by
 rcases hk with hk|hk|hk|hk|hk|hk|hk
 ·exact .inl (.inl (hk.trans h.g))
 ·exact .inl (.inr (.inl (hk.trans h.mt)))
 ·exact .inl (.inr (.inr (.inl (hk.trans h.mg))))
 ·rw[h.vl]at hk;exact .inl (.inr (.inr (.inr (.inl hk))))
 ·exact(h.vu.own k hk).imp (fun q=> .inr (.inr (.inr (.inr (.inl q))))) id
 ·exact(h.vs.own k hk).imp (fun q=> .inr (.inr (.inr (.inr (.inr (.inl q)))))) id
 ·rw[h.ms]at hk;exact .inl (.inr (.inr (.inr (.inr (.inr (.inr hk))))))
structure Wk (D:Nat)(m:FM)(st:PS)(en:En)(w w':World):Prop where
 fin:∃m',Fin D w' m' st en∧m.Up w m'
 fr:Fr m.own w w'
section
variable {D:Nat} {w w1 w':World} {m m' m1:FM} {st st':PS} {en en':En}
theorem Wk.trans (hu:m.Up w m1)(hf:Fr m.own w w1)(h:Wk D m1 st en w1 w'):Wk D m st en w w':=by
 exact aex
theorem Wk.same (h:Fin D w' m st en)(hf:Fr (fun k=>k=m.g) w w'):Wk D m st en w w':=⟨⟨m,h,FM.Up.refl _ _⟩,hf.mono (fun k hk=> .inl hk)⟩
theorem Wk.of_below (h:Fin D w m st en)(hb:Below w.heap.size w w'):Wk D m st en w w':=⟨⟨m,h.below hb,FM.Up.refl _ _⟩,Fr.of_below hb⟩
theorem Wk.Gq (h:zQ D m st en w w'):Wk D m st en w w':=by
 obtain⟨v1,h1,h2⟩:=h.fin;exact⟨⟨_,h1,rfl,rfl,rfl,rfl,rfl,h2,.inl rfl⟩,h.fr.mono (fun k hk=>hk.elim .inl (fun q=> .inr (.inr (.inr (.inr (.inl q))))))⟩
theorem Fin.opened (h:Fin D w m st en){b:Nat}{v1:Value}(hb:w'.heap[m.g]?=some (.cells #[.map (some m.mt),m.vl,m.vu,.map (some m.mg),v1,.int .i64 st.err,.int .i64 st.bad,.bool en.this,.bool en.back] 56 (0,0)))(hk:∀k,k≠m.g→¬bQ m.vs k→m.own k→w'.heap[k]?=w.heap[k]?)
  (hm:dY w' b 0 (fun _=>none) 0)(hbn:w.heap.size≤b)(hl:K1.R 97 w' D (fun k=>D≤k) v1 (m.row++[[.map (some b)]])):Fin D w' {m with vs:=v1,ms:=m.ms++[b]} st ⟨en.fP++[[]],en.this,en.back⟩:=by
 obtain⟨n1,n2,n3,n4,n5,n6⟩:=h.qj;obtain⟨c0,q0⟩:=h.mg;obtain⟨r1,r2,r3⟩:=h.qM h.mt.blk;obtain⟨s1,s2,s3⟩:=h.qM q0.blk
 have apart:∀k,bQ m.vs k→¬bQ m.vl k∧¬bQ m.vu k:=fun k hv=>by
  obtain⟨cs,q⟩:=Kd.dO h.vs k hv;refine⟨fun e=>?_,fun e=>?_⟩
  ·obtain⟨cs',q'⟩:=Kd.dO h.vl k e;rw[q]at q';cases q'
  ·obtain⟨cs',q'⟩:=Kd.dO h.vu k e;rw[q]at q';cases q'
 have hlt:∀k,m.own k→k≠b:=fun k hk e=>by have:=h.hi k hk;omega
 have hD:D≤w.heap.size:=Nat.le_trans h.lg (Nat.le_of_lt (ay h.blk));refine⟨hb,h.mt.same (hk _ n1.symm r3 (.inr (.inl rfl))),⟨c0,q0.same (hk _ n2.symm s3 (.inr (.inr (.inl rfl))))⟩,?_,?_,?_,?_,fun i b2 l hb2 hl2=>?_,h.lg,h.lt,h.lm,fun b2 hb2=>?_,?_⟩
 ·exact bW rfl h.vl (fun k q=>hk k (fun e=>n3 (e▸q)) (fun e=>(apart k e).1 q) (.inr (.inr (.inr (.inl q)))))
 ·exact bW rfl h.vu (fun k q=>hk k (fun e=>n4 (e▸q)) (fun e=>(apart k e).2 q) (.inr (.inr (.inr (.inr (.inl q))))))
 ·have e:({m with vs:=v1,ms:=m.ms++[b]}:FM).row=m.row++[[.map (some b)]]:=by unfold FM.row;simp
  rw[e];exact hl
 ·simp[h.len]
 ·have hb2:(m.ms++[b])[i]?=some b2:=hb2
  have hl2:(en.fP++[[]])[i]?=some l:=hl2;have hlen:=h.len;by_cases hi:i<m.ms.length
  ·rw[List.getElem?_append_left hi]at hb2
   rw[List.getElem?_append_left aG]at hl2;have hmem:=List.mem_of_getElem? hb2;obtain⟨c,q⟩:=h.sc i b2 l hb2 hl2;exact⟨c,q.same (hk _ (fun e=>n6 (e▸hmem)) (h.qM q.blk).2.2 (.inr (.inr (.inr (.inr (.inr (.inr hmem)))))))⟩
  ·have hi2:i=m.ms.length:=by
    have:=(List.getElem?_eq_some_iff.1 hb2).1;simp at this;omega
   subst hi2;simp at hb2;subst hb2;rw[hlen]at hl2;simp at hl2;subst hl2;exact⟨0,hm⟩
 ·have hb2:b2∈m.ms++[b]:=hb2
  rcases List.mem_append.1 hb2 with q|q
  ·exact h.ls b2 q
  ·simp at q;subst q;omega
 ·show(m.mt::m.mg::(m.ms++[b])).Nodup
  have hne:=h.ne;rw[←List.cons_append,←List.cons_append,List.nodup_append];refine⟨hne,qo,fun a ha c hc=>?_⟩;simp at hc;subst hc;simp only[List.mem_cons]at ha;rcases ha with rfl|rfl|ha
  ·exact hlt _ (.inr (.inl rfl))
  ·exact hlt _ (.inr (.inr (.inl rfl)))
  ·exact hlt _ (.inr (.inr (.inr (.inr (.inr (.inr ha))))))
theorem Fin.closed {wD:List (List dQ)}{sc:List dQ}{th bk:Bool}(h:Fin D w m st ⟨wD++[sc],th,bk⟩){ms0:List Nat}{b:Nat}{v1:Value}(hms:m.ms=ms0++[b])(hv:v1.ownBlock=m.vs.ownBlock)(hl:K1.R 97 w D (fun k=>D≤k) v1 (ms0.map (fun b=>[Value.map (some b)]))):
  Fin D (w.setCell ⟨m.g,4,none⟩ v1) {m with vs:=v1,ms:=ms0} st ⟨wD,th,bk⟩:=by
 obtain⟨n1,n2,n3,n4,n5,n6⟩:=h.qj;have hk:∀k,k≠m.g→(w.setCell ⟨m.g,4,none⟩ v1).heap[k]?=w.heap[k]?:=fun k hk=>Below.heap_setCell _ _ _ _ hk;have hsub:∀k,k∈ms0→k∈m.ms:=fun k hk=>by rw[hms];exact List.mem_append_left _ hk
 have hlen:=h.len;rw[hms]at hlen;simp at hlen;refine⟨bT h.blk 4 v1 rfl,h.mt.same (hk _ n1.symm),?_,bW rfl h.vl (fun k q=>hk k (fun e=>n3 (e▸q))),bW rfl h.vu (fun k q=>hk k (fun e=>n4 (e▸q))),bW rfl hl (fun k q=>hk k (fun e=>n5 (by unfold bQ at*;rw[←hv,←e];exact q))),hlen,fun i b2 l hb2 hl2=>?_,h.lg,h.lt,h.lm,fun b2 hb2=>h.ls b2 (hsub b2 hb2),?_⟩
 ·obtain⟨c0,q0⟩:=h.mg;exact⟨c0,q0.same (hk _ n2.symm)⟩
 ·have hb2:ms0[i]?=some b2:=hb2
  have hl2:wD[i]?=some l:=hl2;have h1:=(List.getElem?_eq_some_iff.1 hb2).1;obtain⟨c,q⟩:=h.sc i b2 l (by rw[hms,List.getElem?_append_left h1];exact hb2) (by show(wD++[sc])[i]?=_;rw[List.getElem?_append_left aG];exact hl2);exact⟨c,q.same (hk _ (fun e=>n6 (e▸hsub _ (List.mem_of_getElem? hb2))))⟩
 ·have hne:=h.ne
  rw[hms]at hne;rw[←List.cons_append,←List.cons_append,List.nodup_append]at hne;exact hne.1
end
abbrev afH (bs bf:Nat):Value:= .func (.func 123) #[] #[.pointer (some ⟨bs,0,none⟩),.pointer (some ⟨bf,0,none⟩)]
def DoC (K:Nat)(lb:Array Value)(D:Nat)(w:World)(m:FM)(st st2:PS)(en:En):Prop:=
 ∀(W:World) (m1:FM) (b bs bf:Nat),Fin D W m1 st ⟨en.fP++[[]],en.this,en.back⟩→m1.ms=m.ms++[b]→m1.g=m.g→(∀k,m1.own k→m.own k∨w.heap.size≤k)→¬m1.own bs→¬m1.own bf→Bx W m.g b bs bf→Fr m.own w W→
  Calls Tryz.prog K (#[afH bs bf]++lb) W fun e W'=>e= .returned (.tuple #[])∧∃sc,Wk D m1 st2 ⟨en.fP++[sc],en.this,en.back⟩ W W'
theorem R8 {D:Nat}{w:World}{m:FM}{st st2:PS}{en:En}(h:Fin D w m st en)(l0 l1 l2:Value)(hdo:DoC 116 #[l0,l1,l2] D w m st st2 en)(hms:m.ms.length≤1099511627776):
  Calls Tryz.prog 115 #[.pointer (some ⟨m.g,0,none⟩),.func (.func 116) #[] #[l0,l1,l2]] w fun r w'=>r= .returned (.tuple #[])∧Wk D m st2 en w w':=by
 refine MW ?_;intro hmm H HDO W3 hW3 Ad P_
 have dI:=hide (show Bx W3 m.g (w.heap.size+1) (w.heap.size+2) w.heap.size∧dY W3 (w.heap.size+1) 0 (fun _=>none) 0 from by
  refine Za ?_;intro n0 n1 n2;refine⟨⟨n2,?_⟩,n1.same (Below.heap_alloc _ _ _ qo)⟩;exact(Below.heap_alloc _ _ _ Oi).trans ((Below.heap_alloc _ _ _ qo).trans n0))
 refine rW ?_;intro Js HGL HD;clear h hdo;go_enter Tryz.func115,Tryz.ntmps115;go_wp2;clear hW3 hmm;refine WT ?_;intro sD hb0;refine bX (n:=11) (S:=fun w'=>w'.cell? ⟨w.heap.size,0,none⟩=some (.pointer (some ⟨m.g,0,none⟩))∧w'.cell? ⟨m.g,4,none⟩=some (m.vs)∧w'.cell? ⟨w.heap.size+1+1,0,none⟩=some (.map (some (w.heap.size+1)))) (ds:=[10]) #[false,false,false,false,false,false,false,false,false,false,false] dL rfl rfl ⟨(sD.out _ (Fr.of_below hb0)).1,(sD.out _ (Fr.of_below hb0)).2.1,(sD.out _ (Fr.of_below hb0)).2.2⟩ (fun hHeld=>?_);obtain⟨we,hwd⟩:∃wd,wd=W3.drew:=⟨_,rfl⟩;rw[←hwd]at hHeld⊢;have E0:=hide (show Below W3.heap.size W3 we from gX);clear hwd hb0;refine tv 0 6 hHeld ?_;refine tv 1 7 hHeld ?_;refine pv 2 8 ?_;refine pv 3 9 ?_;refine tv 4 10 hHeld ?_;refine tv 5 11 hHeld ?_;refine iw (i:=6) (N:=some 12) #[true,true,true,true,true,true,true,false,false,false,false] rfl rfl dL wN (fun K hK=>?_);refine gW (w1:=?_) (v:=?_) Nr rfl ?_ ?_;rotate_left 2
 ·exact Xt
 have E1:=hide (E0.out.trans ((au (Below.refl we.heap.size we) (.cells #[.map (some (w.heap.size+1))] 97)).mono E0.out.size));refine hK.out _ _ ⟨(sD.out _ (Fr.of_below E1.out)).1,(sD.out _ (Fr.of_below E1.out)).2.1,(sD.out _ (Fr.of_below E1.out)).2.2⟩ (fun hHeld=>?_);clear hK K;refine cK (a':=?_) ?_ ?_;rotate_left
 ·show Act.put _ (some 12) _=_
  exact aad
 refine iw (i:=7) (N:=some 13) #[true,true,true,true,true,true,true,true,false,false,false] rfl rfl dL wN (fun K hK=>?_);refine Kd.cZ K1 (w0:=we) D Nr (.tmp 10) (.tmp 12) 54 97 (.map none) 8 rfl Tryz.underlying54 PW rfl wN aG m.vs m.row [.map (some (w.heap.size+1))] [.map (some (w.heap.size+1))] (fun k=>D≤k) (fun _=>False) rfl rfl ⟨rfl,rfl,eU⟩ (fun _ hk=>hk.elim) (fun k hk=>Nat.le_trans HD.out (Nat.le_trans Ad.out.size (Nat.le_trans E0.out.size hk))) (Kd.bS (Kd.bS H.out.vs Ad.out) E0.out) (Below.refl _ _) (Nat.le_trans HD.out (Nat.le_trans Ad.out.size E0.out.size)) (by unfold FM.row;rw[List.length_map];omega) ?_;intro v1 w6 h1 h2 h3 h4;obtain⟨A9,c9,rfl,-,-⟩:=Kd.bL h1;refine YS ?_;clear h1 h4;intro F1 F3 F4 f6 e6 Qa;clear h2 h3;refine hK.out _ _ ⟨(sD.out _ (Qa.out)).1,(sD.out _ (Qa.out)).2.1,(sD.out _ (Qa.out)).2.2⟩ (fun hHeld=>?_);clear hK K;refine cK (a':=?_) ?_ ?_;rotate_left
 ·show Act.put _ (some 13) _=_
  exact aad
 refine pv 8 14 ?_;refine pv 9 15 ?_;refine eF (i:=10) (N:=none) #[true,true,true,true,true,true,true,true,true,true,true] rfl rfl dL wN (fun K hK=>?_);refine gy (w1:=?_) Nr rfl ?_ ?_;rotate_left
 ·go_simp
  rfl
 refine hK.out _ _ ?_;clear hK K;refine dP dL ?_;refine uJ ?_;clear F1 F4;intro v1 F4 F1 hv1 W7 wP e7
 have hne:¬bQ v1 m.g:=fun e=>by
  exact Ot
 have hF7:Fr m.own w W7:=by
  exact YC
 have hb7:W7.heap[m.g]?=some (.cells #[.map (some m.mt),m.vl,m.vu,.map (some m.mg),v1,.int .i64 st.err,.int .i64 st.bad,.bool en.this,.bool en.back] 56 (0,0)):=by
  exact aac
 have Nk:Bx W7 m.g (w.heap.size+1) (w.heap.size+2) w.heap.size:=by
  exact Xp
 have VQ:dY W7 (w.heap.size+1) 0 (fun _=>none) 0:=by
  exact WX
 refine Cc ?_;intro hl7 hfin
 have how:∀k,({m with vs:=v1,ms:=m.ms++[w.heap.size+1]}:FM).own k→m.own k∨w.heap.size+1=k∨we.heap.size≤k:=fun k hk=>by
  exact xO
 refine Ou ?_;intro abk VW Nl Nn HV d0;clear how hF7 Nk VQ hl7 hfin hb7 hne e7 wP hv1 HDO;go_wp2_with (go_at_call 116;refine Aside0.out ?_);exact aiH
theorem R9 {D:Nat}{w:World}{m:FM}{st st2:PS}{en:En}(h:Fin D w m st en)(l0 l1 l2:Value)(hdo:DoC 117 #[l0,l1,l2] D w m st st2 en)(hms:m.ms.length≤1099511627776):
  Calls Tryz.prog 115 #[.pointer (some ⟨m.g,0,none⟩),.func (.func 117) #[] #[l0,l1,l2]] w fun r w'=>r= .returned (.tuple #[])∧Wk D m st2 en w w':=by
 refine MW ?_;intro hmm H HDO W3 hW3 Ad P_
 have dI:=hide (show Bx W3 m.g (w.heap.size+1) (w.heap.size+2) w.heap.size∧dY W3 (w.heap.size+1) 0 (fun _=>none) 0 from by
  refine Za ?_;intro n0 n1 n2;refine⟨⟨n2,?_⟩,n1.same (Below.heap_alloc _ _ _ qo)⟩;exact(Below.heap_alloc _ _ _ Oi).trans ((Below.heap_alloc _ _ _ qo).trans n0))
 refine rW ?_;intro Js HGL HD;clear h hdo;go_enter Tryz.func115,Tryz.ntmps115;go_wp2;clear hW3 hmm;refine WT ?_;intro sD hb0;refine bX (n:=11) (S:=fun w'=>w'.cell? ⟨w.heap.size,0,none⟩=some (.pointer (some ⟨m.g,0,none⟩))∧w'.cell? ⟨m.g,4,none⟩=some (m.vs)∧w'.cell? ⟨w.heap.size+1+1,0,none⟩=some (.map (some (w.heap.size+1)))) (ds:=[10]) #[false,false,false,false,false,false,false,false,false,false,false] dL rfl rfl ⟨(sD.out _ (Fr.of_below hb0)).1,(sD.out _ (Fr.of_below hb0)).2.1,(sD.out _ (Fr.of_below hb0)).2.2⟩ (fun hHeld=>?_);obtain⟨we,hwd⟩:∃wd,wd=W3.drew:=⟨_,rfl⟩;rw[←hwd]at hHeld⊢;have E0:=hide (show Below W3.heap.size W3 we from gX);clear hwd hb0;refine tv 0 6 hHeld ?_;refine tv 1 7 hHeld ?_;refine pv 2 8 ?_;refine pv 3 9 ?_;refine tv 4 10 hHeld ?_;refine tv 5 11 hHeld ?_;refine iw (i:=6) (N:=some 12) #[true,true,true,true,true,true,true,false,false,false,false] rfl rfl dL wN (fun K hK=>?_);refine gW (w1:=?_) (v:=?_) Nr rfl ?_ ?_;rotate_left 2
 ·exact Xt
 have E1:=hide (E0.out.trans ((au (Below.refl we.heap.size we) (.cells #[.map (some (w.heap.size+1))] 97)).mono E0.out.size));refine hK.out _ _ ⟨(sD.out _ (Fr.of_below E1.out)).1,(sD.out _ (Fr.of_below E1.out)).2.1,(sD.out _ (Fr.of_below E1.out)).2.2⟩ (fun hHeld=>?_);clear hK K;refine cK (a':=?_) ?_ ?_;rotate_left
 ·show Act.put _ (some 12) _=_
  exact aad
 refine iw (i:=7) (N:=some 13) #[true,true,true,true,true,true,true,true,false,false,false] rfl rfl dL wN (fun K hK=>?_);refine Kd.cZ K1 (w0:=we) D Nr (.tmp 10) (.tmp 12) 54 97 (.map none) 8 rfl Tryz.underlying54 PW rfl wN aG m.vs m.row [.map (some (w.heap.size+1))] [.map (some (w.heap.size+1))] (fun k=>D≤k) (fun _=>False) rfl rfl ⟨rfl,rfl,eU⟩ (fun _ hk=>hk.elim) (fun k hk=>Nat.le_trans HD.out (Nat.le_trans Ad.out.size (Nat.le_trans E0.out.size hk))) (Kd.bS (Kd.bS H.out.vs Ad.out) E0.out) (Below.refl _ _) (Nat.le_trans HD.out (Nat.le_trans Ad.out.size E0.out.size)) (by unfold FM.row;rw[List.length_map];omega) ?_;intro v1 w6 h1 h2 h3 h4;obtain⟨A9,c9,rfl,-,-⟩:=Kd.bL h1;refine YS ?_;clear h1 h4;intro F1 F3 F4 f6 e6 Qa;clear h2 h3;refine hK.out _ _ ⟨(sD.out _ (Qa.out)).1,(sD.out _ (Qa.out)).2.1,(sD.out _ (Qa.out)).2.2⟩ (fun hHeld=>?_);clear hK K;refine cK (a':=?_) ?_ ?_;rotate_left
 ·show Act.put _ (some 13) _=_
  exact aad
 refine pv 8 14 ?_;refine pv 9 15 ?_;refine eF (i:=10) (N:=none) #[true,true,true,true,true,true,true,true,true,true,true] rfl rfl dL wN (fun K hK=>?_);refine gy (w1:=?_) Nr rfl ?_ ?_;rotate_left
 ·go_simp
  rfl
 refine hK.out _ _ ?_;clear hK K;refine dP dL ?_;refine uJ ?_;clear F1 F4;intro v1 F4 F1 hv1 W7 wP e7
 have hne:¬bQ v1 m.g:=fun e=>by
  exact Ot
 have hF7:Fr m.own w W7:=by
  exact YC
 have hb7:W7.heap[m.g]?=some (.cells #[.map (some m.mt),m.vl,m.vu,.map (some m.mg),v1,.int .i64 st.err,.int .i64 st.bad,.bool en.this,.bool en.back] 56 (0,0)):=by
  exact aac
 have Nk:Bx W7 m.g (w.heap.size+1) (w.heap.size+2) w.heap.size:=by
  exact Xp
 have VQ:dY W7 (w.heap.size+1) 0 (fun _=>none) 0:=by
  exact WX
 refine Cc ?_;intro hl7 hfin
 have how:∀k,({m with vs:=v1,ms:=m.ms++[w.heap.size+1]}:FM).own k→m.own k∨w.heap.size+1=k∨we.heap.size≤k:=fun k hk=>by
  exact xO
 refine Ou ?_;intro abk VW Nl Nn HV d0;clear how hF7 Nk VQ hl7 hfin hb7 hne e7 wP hv1 HDO;go_wp2_with (go_at_call 117;refine Aside0.out ?_);exact aiH
end Go.Proofs.YtldgmneijipbjaaGreatDoor.H
