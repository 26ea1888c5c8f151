import Derived.Test.YtldgmneijipbjaaGreatDoorBU3
import Derived.Test.YtldgmneijipbjaaGreatDoorBF0
import Derived.Test.YtldgmneijipbjaaGreatDoorBMac
set_option linter.unusedVariables false
set_option linter.unusedSimpArgs false
set_option maxRecDepth 100000
set_option maxHeartbeats 16000000
namespace Go.Proofs.YtldgmneijipbjaaGreatDoor.H
open Go.RowKit Go.Maps Go.WideMaps Go.Shelf Go.Proofs.YtldgmneijipbjaaGreatDoorW.PrintWords Go.Proofs.YtldgmneijipbjaaGreatDoorW.PrintLast Go.Proofs.YtldgmneijipbjaaGreatDoorW.PrintMore
open PScopeOwn
structure zQ (D:Nat)(m:FM)(st:PS)(en:En)(w w':World):Prop where
 fin:∃v1,Fin D w' {m with vu:=v1} st en∧(OwnAt w m.vu v1)
 fr:Fr (fun k=>k=m.g∨bQ m.vu k) w w'
theorem zQ.same {D:Nat}{w w':World}{m:FM}{st':PS}{en':En}(h:Fin D w' m st' en')(hf:Fr (fun k=>k=m.g) w w'):zQ D m st' en' w w':=⟨⟨m.vu,h,.inl rfl⟩,hf.mono (fun k hk=> .inl hk)⟩
theorem zQ.make {D:Nat}{w w4 we w6:World}{m:FM}{st:PS}{en:En}{t:bV}{v1:Value}(H:Fin D w m st en)(h0:Below w.heap.size w w4)(h5:Below w4.heap.size w4 we)(qx:we.grownBy w6 m.vu.ownBlock)
  (hl:K5.R 37 w6 D (fun k=>D≤k) v1 (st.uses.map bV.cs++[t.cs]))(hat:v1.ownBlock=m.vu.ownBlock∨∃b,v1.ownBlock=some b∧we.heap.size≤b):
  zQ D m {st with uses:=st.uses++[t]} en w (w6.setCell ⟨m.g,2,none⟩ v1):=by
 obtain⟨n1,n2,n3,n4,n5,n6⟩:=H.qj;refine XW ?_;intro s0 s5 lg k6;have g6:w6.heap[m.g]?=w.heap[m.g]?:=k6 _ lg n4
 have hne1:¬bQ v1 m.g:=fun e=>by
  unfold bQ at e;rcases hat with q|⟨b,q,hb⟩
  ·exact n4 wC
  ·rw[q]at e;cases e;omega
 have hF:Fr (fun k=>k=m.g∨bQ m.vu k) w (w6.setCell ⟨m.g,2,none⟩ v1):=by
  refine Fr.setCell (p:=⟨m.g,2,none⟩) ?_ (.inl (.inl rfl)) _;exact Ke
 have keep:∀k,k≠m.g→¬bQ m.vu k→m.own k→(w6.setCell ⟨m.g,2,none⟩ v1).heap[k]?=w.heap[k]?:=fun k a b ho=>hF.block k (H.hi k ho) (fun e=>e.elim a b);obtain⟨c0,q0⟩:=H.mg;obtain⟨r1,r2,r3⟩:=H.qM H.mt.blk;obtain⟨s1,s2,s3⟩:=H.qM q0.blk
 have apart:∀k,bQ m.vu k→¬bQ m.vl k∧¬bQ m.vs k:=fun k hv=>by
  obtain⟨cs,q⟩:=Kd.dO H.vu k hv;refine⟨fun e=>?_,fun e=>?_⟩
  ·obtain⟨cs',q'⟩:=Kd.dO H.vl k e;rw[q]at q';cases q'
  ·obtain⟨cs',q'⟩:=Kd.dO H.vs k e;rw[q]at q';cases q'
 refine⟨⟨v1,⟨?_,H.mt.same (keep _ n1.symm r2 (.inr (.inl rfl))),⟨c0,q0.same (keep _ n2.symm s2 (.inr (.inr (.inl rfl))))⟩,?_,?_,?_,H.len,fun i b l hb2 hl2=>?_,H.lg,H.lt,H.lm,H.ls,H.ne⟩,?_⟩,hF⟩
 ·exact bT (cs':=({m with vu:=v1}:FM).cells {st with uses:=st.uses++[t]} en) (g6.trans H.blk) 2 v1 rfl
 ·exact bW rfl H.vl (fun k q=>keep k (fun e=>n3 (e▸q)) (fun e=>(apart k e).1 q) (.inr (.inr (.inr (.inl q)))))
 ·exact Kg
 ·exact bW rfl H.vs (fun k q=>keep k (fun e=>n5 (e▸q)) (fun e=>(apart k e).2 q) (.inr (.inr (.inr (.inr (.inr (.inl q)))))))
 ·have hmem:=List.mem_of_getElem? hb2
  obtain⟨c,q⟩:=H.sc i b l hb2 hl2;exact⟨c,q.same (keep _ (fun e=>n6 (e▸hmem)) (H.qM q.blk).2.1 (.inr (.inr (.inr (.inr (.inr (.inr hmem)))))))⟩
 ·rcases hat with q|⟨b,q,hb⟩
  ·exact .inl q
  ·exact .inr ⟨b,q,aG⟩
theorem RY {D:Nat}{w:World}{m:FM}{st:PS}{en:En}(h:Fin D w m st en)(s:ByteArray)(pos:Int)(typed:Bool)(hs:s.size≤1099511627776)(ht:bO st.aN s=none):
  Calls Tryz.prog 83 #[.pointer (some ⟨m.g,0,none⟩),.string s,.int .i64 pos,.bool typed] w fun r w'=>r= .returned (.tuple #[])∧Fin D w' m (st.fail 91 pos) en∧Fr (fun k=>k=m.g) w w':=by
 refine Vk ?_;intro c0 sF yA HT H;clear h ht;go_enter Tryz.func83,Tryz.ntmps83;go_wp2_with (first|(at_lookup;refine fE _ rfl _ _ 52 rfl 43 Tryz.underlying52 (kT _) m.mt _ _ (kS st.aN) rfl yA.out s rfl sF.out Ab Ox false Ox ?_)|(go_at_call 77;refine(jf (H.out.below (au (Below.refl _ _) _)) 91 pos).mono ?_;rintro e w3 ⟨rfl,hf3,hr3⟩;have zP:=hide (And.intro hf3 hr3);clear hf3 hr3));exact adq
theorem Dx {D:Nat}{w:World}{m:FM}{st:PS}{en:En}(h:Fin D w m st en)(s:ByteArray)(pos:Int)(hs:s.size≤1099511627776)(hn:st.uses.length≤1099511627776)(tn:ByteArray)(tk tp ti:Int)(tc:Bool)(ht:bO st.aN s=some ⟨tn,tk,tp,ti,tc⟩)(hk:(tk==61)=true):
  Calls Tryz.prog 83 #[.pointer (some ⟨m.g,0,none⟩),.string s,.int .i64 pos,.bool true] w fun r w'=>r= .returned (.tuple #[])∧zQ D m (st.only s pos true) en w w':=by
 refine Ny ?_;intro c0 sF yA HT zd hzd z46 Kh z42 Dy;have afB:(tk != 61)=false:=by simp only[bne,hk];rfl
 obtain⟨r,hr⟩:∃r,st.only s pos true=r:=⟨_,rfl⟩
 have hsd:(s.toList==[100,101,102,97,117,108,116])=decide (s=bB):=by
  exact adx
 have HR:=hide (show r=if(zd||(true&&(z46&&(z42&&false))))=true then st.fail 91 pos else {st with uses:=st.uses++[(⟨pos,4,tp,s,true⟩:bV)]}from by
  refine Nv ?_;intro vP
  congr 1
  first|(simp[bne];done)|(simp[bne,vP];done)|(simp[bne];omega))
 refine Hz ?_;intro H W2 hW2 HW2 dI Dj Dk HD d9 d0 d1 d2 d3 d4;clear h ht hr;go_enter Tryz.func83,Tryz.ntmps83;go_wp2_with (first|(at_lookup;refine fE _ rfl _ _ 52 rfl 43 Tryz.underlying52 (kT _) m.mt _ _ (kS st.aN) rfl yA.out s rfl sF.out (.agg #[.string tn,.int .i64 tk,.int .i64 tp,.int .i64 ti,.bool tc]) Ox true Ox ?_)|(go_at_call 77;refine(jf (H.out.below HW2.out) 91 pos).mono ?_;rintro e w3 ⟨rfl,hf3,hr3⟩;have zP:=hide (And.intro hf3 hr3);clear hf3 hr3))
 all_goals try (((try simp only[Exit.inBlock,Exit.then]);refine bodyPost_ret (results_none rfl _ _ _) rfl ?_);exact⟨rfl,dV⟩)
 all_goals
  clear hW2 c0 d9 d0 d1 d2 d3 d4;refine IZ ?_;intro hb0;refine bX (n:=17) (S:=fun w'=>w'.cell? ⟨m.g,2,none⟩=some (m.vu)∧w'.cell? ⟨w.heap.size,0,none⟩=some (.string tn)∧w'.cell? ⟨w.heap.size,1,none⟩=some (.int .i64 tk)∧w'.cell? ⟨w.heap.size,2,none⟩=some (.int .i64 tp)∧w'.cell? ⟨w.heap.size,3,none⟩=some (.int .i64 ti)∧w'.cell? ⟨w.heap.size,4,none⟩=some (.bool tc)) (ds:=[13,16]) #[false,false,false,false,false,false,false,false,false,false,false,false,false,false,false,false,false] dL rfl rfl (Dk.out _ hb0) (fun hHeld=>?_);obtain⟨we,hwd⟩:∃wd,wd=W2.drew:=⟨_,rfl⟩;rw[←hwd]at hHeld⊢;refine mG ?_;intro E0;clear hwd hb0;refine pv 0 50 ?_;refine pv 1 51 ?_;refine pv 2 52 ?_;refine pv 3 53 ?_;refine pv 5 55 ?_;refine pv 6 56 ?_;refine pv 7 57 ?_;refine pv 9 59 ?_;refine pv 10 60 ?_;refine tv 4 54 hHeld ?_;refine tv 8 58 hHeld ?_;refine pv 11 61 ?_;refine iw (i:=12) (N:=some 62) #[true,true,true,true,true,true,true,true,true,true,true,true,true,false,false,false,false] rfl rfl dL wN (fun K hK=>?_);refine gW (w1:=?_) (v:=?_) Nr rfl ?_ ?_;rotate_left 2
  ·exact Xt
  have E1:=hide (E0.out.trans ((au (Below.refl we.heap.size we) (.cells #[.int .i64 pos,.int .i64 4,.int .i64 tp,.string s,.bool true] 37)).mono E0.out.size));refine hK.out _ _ (Dk.out _ E1.out) (fun hHeld=>?_);clear hK K;refine cK (a':=?_) ?_ ?_;rotate_left
  ·exact Kj
  refine eF (i:=13) (N:=some 63) #[true,true,true,true,true,true,true,true,true,true,true,true,true,true,false,false,false] rfl rfl dL wN (fun K hK=>?_);refine Kd.cZ K5 (w0:=we) D Nr (.tmp 54) (.tmp 62) 26 37 xH 48 rfl Tryz.underlying26 jZ rfl wN aG m.vu (st.uses.map bV.cs) (bV.cs (⟨pos,4,tp,s,true⟩:bV)) [.int .i64 pos,.int .i64 4,.int .i64 tp,.string s,.bool true] (fun k=>D≤k) (fun _=>False) rfl rfl ⟨rfl,rfl,eU⟩ (fun _ hk=>hk.elim) (fun k hk=>Nat.le_trans HD.out (Nat.le_trans E0.out.size hk)) (Kd.bS (Kd.bS H.out.vu HW2.out) E0.out) (Below.refl _ _) (Nat.le_trans HD.out E0.out.size) za ?_;intro v1 w6 h1 h2 h3 h4;obtain⟨A9,c9,rfl,-,-⟩:=Kd.bL h1;rw[show(st.uses.map bV.cs++[bV.cs (⟨pos,4,tp,s,true⟩:bV)]).length=st.uses.length+1 from qo]at h1 h4;refine o7 ?_;intro F1 F3 F4 f6 e6;clear h1 h2 h3 h4;refine hK.out _ _ ?_;clear hK K;refine cK (a':=?_) ?_ ?_;rotate_left
  ·exact Zp
  refine pv 14 64 ?_;refine pv 15 65 ?_;refine eF (i:=16) (N:=none) #[true,true,true,true,true,true,true,true,true,true,true,true,true,true,true,true,true] rfl rfl dL wN (fun K hK=>?_);refine gy (w1:=?_) Nr rfl ?_ ?_;rotate_left
  ·go_simp
   rfl
  refine hK.out _ _ ?_;clear hK K;refine dP dL ?_;go_wp2;go_end0;exact⟨rfl,by rw[HR.out,if_neg MK];exact zQ.make (t:=(⟨pos,4,tp,s,true⟩:bV)) H.out HW2.out E0.out F3.out F1.out F4.out⟩
theorem B_ {D:Nat}{w:World}{m:FM}{st:PS}{en:En}(h:Fin D w m st en)(s:ByteArray)(pos:Int)(hs:s.size≤1099511627776)(hn:st.uses.length≤1099511627776)(tn:ByteArray)(tk tp ti:Int)(tc:Bool)(ht:bO st.aN s=some ⟨tn,tk,tp,ti,tc⟩)(hk:(tk==61)=true):
  Calls Tryz.prog 83 #[.pointer (some ⟨m.g,0,none⟩),.string s,.int .i64 pos,.bool false] w fun r w'=>r= .returned (.tuple #[])∧zQ D m (st.only s pos false) en w w':=by
 refine Ny ?_;intro c0 sF yA HT zd hzd z46 Kh z42 Dy;have afB:(tk != 61)=false:=by simp only[bne,hk];rfl
 obtain⟨r,hr⟩:∃r,st.only s pos false=r:=⟨_,rfl⟩
 have hsd:(s.toList==[100,101,102,97,117,108,116])=decide (s=bB):=by
  exact adx
 have HR:=hide (show r=if(zd||(false&&(z46&&(z42&&false))))=true then st.fail 91 pos else {st with uses:=st.uses++[(⟨pos,4,tp,s,false⟩:bV)]}from by
  refine Nv ?_;intro vP
  congr 1
  first|(simp[bne];done)|(simp[bne,vP];done)|(simp[bne];omega))
 refine Hz ?_;intro H W2 hW2 HW2 dI Dj Dk HD d9 d0 d1 d2 d3 d4;clear h ht hr;go_enter Tryz.func83,Tryz.ntmps83;go_wp2_with (first|(at_lookup;refine fE _ rfl _ _ 52 rfl 43 Tryz.underlying52 (kT _) m.mt _ _ (kS st.aN) rfl yA.out s rfl sF.out (.agg #[.string tn,.int .i64 tk,.int .i64 tp,.int .i64 ti,.bool tc]) Ox true Ox ?_)|(go_at_call 77;refine(jf (H.out.below HW2.out) 91 pos).mono ?_;rintro e w3 ⟨rfl,hf3,hr3⟩;have zP:=hide (And.intro hf3 hr3);clear hf3 hr3))
 all_goals try (((try simp only[Exit.inBlock,Exit.then]);refine bodyPost_ret (results_none rfl _ _ _) rfl ?_);exact⟨rfl,dV⟩)
 all_goals
  clear hW2 c0 d9 d0 d1 d2 d3 d4;refine IZ ?_;intro hb0;refine bX (n:=17) (S:=fun w'=>w'.cell? ⟨m.g,2,none⟩=some (m.vu)∧w'.cell? ⟨w.heap.size,0,none⟩=some (.string tn)∧w'.cell? ⟨w.heap.size,1,none⟩=some (.int .i64 tk)∧w'.cell? ⟨w.heap.size,2,none⟩=some (.int .i64 tp)∧w'.cell? ⟨w.heap.size,3,none⟩=some (.int .i64 ti)∧w'.cell? ⟨w.heap.size,4,none⟩=some (.bool tc)) (ds:=[13,16]) #[false,false,false,false,false,false,false,false,false,false,false,false,false,false,false,false,false] dL rfl rfl (Dk.out _ hb0) (fun hHeld=>?_);obtain⟨we,hwd⟩:∃wd,wd=W2.drew:=⟨_,rfl⟩;rw[←hwd]at hHeld⊢;refine mG ?_;intro E0;clear hwd hb0;refine pv 0 50 ?_;refine pv 1 51 ?_;refine pv 2 52 ?_;refine pv 3 53 ?_;refine pv 5 55 ?_;refine pv 6 56 ?_;refine pv 7 57 ?_;refine pv 9 59 ?_;refine pv 10 60 ?_;refine tv 4 54 hHeld ?_;refine tv 8 58 hHeld ?_;refine pv 11 61 ?_;refine iw (i:=12) (N:=some 62) #[true,true,true,true,true,true,true,true,true,true,true,true,true,false,false,false,false] rfl rfl dL wN (fun K hK=>?_);refine gW (w1:=?_) (v:=?_) Nr rfl ?_ ?_;rotate_left 2
  ·exact Xt
  have E1:=hide (E0.out.trans ((au (Below.refl we.heap.size we) (.cells #[.int .i64 pos,.int .i64 4,.int .i64 tp,.string s,.bool false] 37)).mono E0.out.size));refine hK.out _ _ (Dk.out _ E1.out) (fun hHeld=>?_);clear hK K;refine cK (a':=?_) ?_ ?_;rotate_left
  ·exact Kj
  refine eF (i:=13) (N:=some 63) #[true,true,true,true,true,true,true,true,true,true,true,true,true,true,false,false,false] rfl rfl dL wN (fun K hK=>?_);refine Kd.cZ K5 (w0:=we) D Nr (.tmp 54) (.tmp 62) 26 37 xH 48 rfl Tryz.underlying26 jZ rfl wN aG m.vu (st.uses.map bV.cs) (bV.cs (⟨pos,4,tp,s,false⟩:bV)) [.int .i64 pos,.int .i64 4,.int .i64 tp,.string s,.bool false] (fun k=>D≤k) (fun _=>False) rfl rfl ⟨rfl,rfl,eU⟩ (fun _ hk=>hk.elim) (fun k hk=>Nat.le_trans HD.out (Nat.le_trans E0.out.size hk)) (Kd.bS (Kd.bS H.out.vu HW2.out) E0.out) (Below.refl _ _) (Nat.le_trans HD.out E0.out.size) za ?_;intro v1 w6 h1 h2 h3 h4;obtain⟨A9,c9,rfl,-,-⟩:=Kd.bL h1;rw[show(st.uses.map bV.cs++[bV.cs (⟨pos,4,tp,s,false⟩:bV)]).length=st.uses.length+1 from qo]at h1 h4;refine o7 ?_;intro F1 F3 F4 f6 e6;clear h1 h2 h3 h4;refine hK.out _ _ ?_;clear hK K;refine cK (a':=?_) ?_ ?_;rotate_left
  ·exact Zp
  refine pv 14 64 ?_;refine pv 15 65 ?_;refine eF (i:=16) (N:=none) #[true,true,true,true,true,true,true,true,true,true,true,true,true,true,true,true,true] rfl rfl dL wN (fun K hK=>?_);refine gy (w1:=?_) Nr rfl ?_ ?_;rotate_left
  ·go_simp
   rfl
  refine hK.out _ _ ?_;clear hK K;refine dP dL ?_;go_wp2;go_end0;exact⟨rfl,by rw[HR.out,if_neg MK];exact zQ.make (t:=(⟨pos,4,tp,s,false⟩:bV)) H.out HW2.out E0.out F3.out F1.out F4.out⟩
theorem Dz {D:Nat}{w:World}{m:FM}{st:PS}{en:En}(h:Fin D w m st en)(s:ByteArray)(pos:Int)(hs:s.size≤1099511627776)(hn:st.uses.length≤1099511627776)(tn:ByteArray)(tk tp ti:Int)(tc:Bool)(ht:bO st.aN s=some ⟨tn,tk,tp,ti,tc⟩)(hk:(tk==61)=false):
  Calls Tryz.prog 83 #[.pointer (some ⟨m.g,0,none⟩),.string s,.int .i64 pos,.bool true] w fun r w'=>r= .returned (.tuple #[])∧zQ D m (st.only s pos true) en w w':=by
 refine Ny ?_;intro c0 sF yA HT zd hzd z46 Kh z42 Dy;have afB:(tk != 61)=true:=by simp only[bne,hk];rfl
 obtain⟨r,hr⟩:∃r,st.only s pos true=r:=⟨_,rfl⟩
 have hsd:(s.toList==[100,101,102,97,117,108,116])=decide (s=bB):=by
  exact adx
 have HR:=hide (show r=if(zd||(true&&(z46&&(z42&&true))))=true then st.fail 91 pos else {st with uses:=st.uses++[(⟨pos,3,tp,s,true⟩:bV)]}from by
  refine Nv ?_;intro vP
  congr 1
  first|(simp[bne];done)|(simp[bne,vP];done)|(simp[bne];omega))
 refine Hz ?_;intro H W2 hW2 HW2 dI Dj Dk HD d9 d0 d1 d2 d3 d4;clear h ht hr;go_enter Tryz.func83,Tryz.ntmps83;go_wp2_with (first|(at_lookup;refine fE _ rfl _ _ 52 rfl 43 Tryz.underlying52 (kT _) m.mt _ _ (kS st.aN) rfl yA.out s rfl sF.out (.agg #[.string tn,.int .i64 tk,.int .i64 tp,.int .i64 ti,.bool tc]) Ox true Ox ?_)|(go_at_call 77;refine(jf (H.out.below HW2.out) 91 pos).mono ?_;rintro e w3 ⟨rfl,hf3,hr3⟩;have zP:=hide (And.intro hf3 hr3);clear hf3 hr3))
 all_goals try (((try simp only[Exit.inBlock,Exit.then]);refine bodyPost_ret (results_none rfl _ _ _) rfl ?_);exact⟨rfl,dV⟩)
 all_goals
  clear hW2 c0 d9 d0 d1 d2 d3 d4;refine IZ ?_;intro hb0;refine bX (n:=17) (S:=fun w'=>w'.cell? ⟨m.g,2,none⟩=some (m.vu)∧w'.cell? ⟨w.heap.size,0,none⟩=some (.string tn)∧w'.cell? ⟨w.heap.size,1,none⟩=some (.int .i64 tk)∧w'.cell? ⟨w.heap.size,2,none⟩=some (.int .i64 tp)∧w'.cell? ⟨w.heap.size,3,none⟩=some (.int .i64 ti)∧w'.cell? ⟨w.heap.size,4,none⟩=some (.bool tc)) (ds:=[13,16]) #[false,false,false,false,false,false,false,false,false,false,false,false,false,false,false,false,false] dL rfl rfl (Dk.out _ hb0) (fun hHeld=>?_);obtain⟨we,hwd⟩:∃wd,wd=W2.drew:=⟨_,rfl⟩;rw[←hwd]at hHeld⊢;refine mG ?_;intro E0;clear hwd hb0;refine pv 0 50 ?_;refine pv 1 51 ?_;refine pv 2 52 ?_;refine pv 3 53 ?_;refine pv 5 55 ?_;refine pv 6 56 ?_;refine pv 7 57 ?_;refine pv 9 59 ?_;refine pv 10 60 ?_;refine tv 4 54 hHeld ?_;refine tv 8 58 hHeld ?_;refine pv 11 61 ?_;refine iw (i:=12) (N:=some 62) #[true,true,true,true,true,true,true,true,true,true,true,true,true,false,false,false,false] rfl rfl dL wN (fun K hK=>?_);refine gW (w1:=?_) (v:=?_) Nr rfl ?_ ?_;rotate_left 2
  ·exact Xt
  have E1:=hide (E0.out.trans ((au (Below.refl we.heap.size we) (.cells #[.int .i64 pos,.int .i64 3,.int .i64 tp,.string s,.bool true] 37)).mono E0.out.size));refine hK.out _ _ (Dk.out _ E1.out) (fun hHeld=>?_);clear hK K;refine cK (a':=?_) ?_ ?_;rotate_left
  ·exact Kj
  refine eF (i:=13) (N:=some 63) #[true,true,true,true,true,true,true,true,true,true,true,true,true,true,false,false,false] rfl rfl dL wN (fun K hK=>?_);refine Kd.cZ K5 (w0:=we) D Nr (.tmp 54) (.tmp 62) 26 37 xH 48 rfl Tryz.underlying26 jZ rfl wN aG m.vu (st.uses.map bV.cs) (bV.cs (⟨pos,3,tp,s,true⟩:bV)) [.int .i64 pos,.int .i64 3,.int .i64 tp,.string s,.bool true] (fun k=>D≤k) (fun _=>False) rfl rfl ⟨rfl,rfl,eU⟩ (fun _ hk=>hk.elim) (fun k hk=>Nat.le_trans HD.out (Nat.le_trans E0.out.size hk)) (Kd.bS (Kd.bS H.out.vu HW2.out) E0.out) (Below.refl _ _) (Nat.le_trans HD.out E0.out.size) za ?_;intro v1 w6 h1 h2 h3 h4;obtain⟨A9,c9,rfl,-,-⟩:=Kd.bL h1;rw[show(st.uses.map bV.cs++[bV.cs (⟨pos,3,tp,s,true⟩:bV)]).length=st.uses.length+1 from qo]at h1 h4;refine o7 ?_;intro F1 F3 F4 f6 e6;clear h1 h2 h3 h4;refine hK.out _ _ ?_;clear hK K;refine cK (a':=?_) ?_ ?_;rotate_left
  ·exact Zp
  refine pv 14 64 ?_;refine pv 15 65 ?_;refine eF (i:=16) (N:=none) #[true,true,true,true,true,true,true,true,true,true,true,true,true,true,true,true,true] rfl rfl dL wN (fun K hK=>?_);refine gy (w1:=?_) Nr rfl ?_ ?_;rotate_left
  ·go_simp
   rfl
  refine hK.out _ _ ?_;clear hK K;refine dP dL ?_;go_wp2;go_end0;exact⟨rfl,by rw[HR.out,if_neg MK];exact zQ.make (t:=(⟨pos,3,tp,s,true⟩:bV)) H.out HW2.out E0.out F3.out F1.out F4.out⟩
theorem Ca {D:Nat}{w:World}{m:FM}{st:PS}{en:En}(h:Fin D w m st en)(s:ByteArray)(pos:Int)(hs:s.size≤1099511627776)(hn:st.uses.length≤1099511627776)(tn:ByteArray)(tk tp ti:Int)(tc:Bool)(ht:bO st.aN s=some ⟨tn,tk,tp,ti,tc⟩)(hk:(tk==61)=false):
  Calls Tryz.prog 83 #[.pointer (some ⟨m.g,0,none⟩),.string s,.int .i64 pos,.bool false] w fun r w'=>r= .returned (.tuple #[])∧zQ D m (st.only s pos false) en w w':=by
 refine Ny ?_;intro c0 sF yA HT zd hzd z46 Kh z42 Dy;have afB:(tk != 61)=true:=by simp only[bne,hk];rfl
 obtain⟨r,hr⟩:∃r,st.only s pos false=r:=⟨_,rfl⟩
 have hsd:(s.toList==[100,101,102,97,117,108,116])=decide (s=bB):=by
  exact adx
 have HR:=hide (show r=if(zd||(false&&(z46&&(z42&&true))))=true then st.fail 91 pos else {st with uses:=st.uses++[(⟨pos,3,tp,s,false⟩:bV)]}from by
  refine Nv ?_;intro vP
  congr 1
  first|(simp[bne];done)|(simp[bne,vP];done)|(simp[bne];omega))
 refine Hz ?_;intro H W2 hW2 HW2 dI Dj Dk HD d9 d0 d1 d2 d3 d4;clear h ht hr;go_enter Tryz.func83,Tryz.ntmps83;go_wp2_with (first|(at_lookup;refine fE _ rfl _ _ 52 rfl 43 Tryz.underlying52 (kT _) m.mt _ _ (kS st.aN) rfl yA.out s rfl sF.out (.agg #[.string tn,.int .i64 tk,.int .i64 tp,.int .i64 ti,.bool tc]) Ox true Ox ?_)|(go_at_call 77;refine(jf (H.out.below HW2.out) 91 pos).mono ?_;rintro e w3 ⟨rfl,hf3,hr3⟩;have zP:=hide (And.intro hf3 hr3);clear hf3 hr3))
 all_goals try (((try simp only[Exit.inBlock,Exit.then]);refine bodyPost_ret (results_none rfl _ _ _) rfl ?_);exact⟨rfl,dV⟩)
 all_goals
  clear hW2 c0 d9 d0 d1 d2 d3 d4;refine IZ ?_;intro hb0;refine bX (n:=17) (S:=fun w'=>w'.cell? ⟨m.g,2,none⟩=some (m.vu)∧w'.cell? ⟨w.heap.size,0,none⟩=some (.string tn)∧w'.cell? ⟨w.heap.size,1,none⟩=some (.int .i64 tk)∧w'.cell? ⟨w.heap.size,2,none⟩=some (.int .i64 tp)∧w'.cell? ⟨w.heap.size,3,none⟩=some (.int .i64 ti)∧w'.cell? ⟨w.heap.size,4,none⟩=some (.bool tc)) (ds:=[13,16]) #[false,false,false,false,false,false,false,false,false,false,false,false,false,false,false,false,false] dL rfl rfl (Dk.out _ hb0) (fun hHeld=>?_);obtain⟨we,hwd⟩:∃wd,wd=W2.drew:=⟨_,rfl⟩;rw[←hwd]at hHeld⊢;refine mG ?_;intro E0;clear hwd hb0;refine pv 0 50 ?_;refine pv 1 51 ?_;refine pv 2 52 ?_;refine pv 3 53 ?_;refine pv 5 55 ?_;refine pv 6 56 ?_;refine pv 7 57 ?_;refine pv 9 59 ?_;refine pv 10 60 ?_;refine tv 4 54 hHeld ?_;refine tv 8 58 hHeld ?_;refine pv 11 61 ?_;refine iw (i:=12) (N:=some 62) #[true,true,true,true,true,true,true,true,true,true,true,true,true,false,false,false,false] rfl rfl dL wN (fun K hK=>?_);refine gW (w1:=?_) (v:=?_) Nr rfl ?_ ?_;rotate_left 2
  ·exact Xt
  have E1:=hide (E0.out.trans ((au (Below.refl we.heap.size we) (.cells #[.int .i64 pos,.int .i64 3,.int .i64 tp,.string s,.bool false] 37)).mono E0.out.size));refine hK.out _ _ (Dk.out _ E1.out) (fun hHeld=>?_);clear hK K;refine cK (a':=?_) ?_ ?_;rotate_left
  ·exact Kj
  refine eF (i:=13) (N:=some 63) #[true,true,true,true,true,true,true,true,true,true,true,true,true,true,false,false,false] rfl rfl dL wN (fun K hK=>?_);refine Kd.cZ K5 (w0:=we) D Nr (.tmp 54) (.tmp 62) 26 37 xH 48 rfl Tryz.underlying26 jZ rfl wN aG m.vu (st.uses.map bV.cs) (bV.cs (⟨pos,3,tp,s,false⟩:bV)) [.int .i64 pos,.int .i64 3,.int .i64 tp,.string s,.bool false] (fun k=>D≤k) (fun _=>False) rfl rfl ⟨rfl,rfl,eU⟩ (fun _ hk=>hk.elim) (fun k hk=>Nat.le_trans HD.out (Nat.le_trans E0.out.size hk)) (Kd.bS (Kd.bS H.out.vu HW2.out) E0.out) (Below.refl _ _) (Nat.le_trans HD.out E0.out.size) za ?_;intro v1 w6 h1 h2 h3 h4;obtain⟨A9,c9,rfl,-,-⟩:=Kd.bL h1;rw[show(st.uses.map bV.cs++[bV.cs (⟨pos,3,tp,s,false⟩:bV)]).length=st.uses.length+1 from qo]at h1 h4;refine o7 ?_;intro F1 F3 F4 f6 e6;clear h1 h2 h3 h4;refine hK.out _ _ ?_;clear hK K;refine cK (a':=?_) ?_ ?_;rotate_left
  ·exact Zp
  refine pv 14 64 ?_;refine pv 15 65 ?_;refine eF (i:=16) (N:=none) #[true,true,true,true,true,true,true,true,true,true,true,true,true,true,true,true,true] rfl rfl dL wN (fun K hK=>?_);refine gy (w1:=?_) Nr rfl ?_ ?_;rotate_left
  ·go_simp
   rfl
  refine hK.out _ _ ?_;clear hK K;refine dP dL ?_;go_wp2;go_end0;exact⟨rfl,by rw[HR.out,if_neg MK];exact zQ.make (t:=(⟨pos,3,tp,s,false⟩:bV)) H.out HW2.out E0.out F3.out F1.out F4.out⟩
theorem Kk {D:Nat}{w:World}{m:FM}{st:PS}{en:En}(h:Fin D w m st en)(s:ByteArray)(pos:Int)(typed:Bool)(hs:s.size≤1099511627776)(hn:st.uses.length≤1099511627776):
  Calls Tryz.prog 83 #[.pointer (some ⟨m.g,0,none⟩),.string s,.int .i64 pos,.bool typed] w fun r w'=>r= .returned (.tuple #[])∧zQ D m (st.only s pos typed) en w w':=by
 cases ht:bO st.aN s with
 |none=>
  rw[show st.only s pos typed=st.fail 91 pos from by unfold PS.only;rw[ht]];refine(RY h s pos typed hs ht).mono ?_;exact aee
 |some t=>
  obtain⟨tn,tk,tp,ti,tc⟩:=t
  cases hk:(tk==61)<;>cases typed
  ·exact Ca h s pos hs hn tn tk tp ti tc ht hk
  ·exact Dz h s pos hs hn tn tk tp ti tc ht hk
  ·exact B_ h s pos hs hn tn tk tp ti tc ht hk
  ·exact Dx h s pos hs hn tn tk tp ti tc ht hk
end Go.Proofs.YtldgmneijipbjaaGreatDoor.H
