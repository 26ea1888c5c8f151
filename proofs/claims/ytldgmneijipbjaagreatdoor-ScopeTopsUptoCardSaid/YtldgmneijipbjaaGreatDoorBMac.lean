import Derived.Below
import Derived.Deep.Draws
import Derived.Deep.AppendLies
import Derived.Maps.AppendAt
import Derived.OwnWalk
import Derived.Laws.BytesArg
import Derived.Laws.MakeOwn
import Derived.Laws.OwnMore
import Derived.Deep.OwnRows
import Derived.Tactics
import Derived.Lib.ConvBytes
import Derived.Laws.Slices
import Derived.WalkKit
import Derived.KernelRfl
import Derived.RowKit3
import Derived.Deep.LoopGhost
import Derived.Deep.QuietTactic
import Derived.BigQuiet
import Derived.WideLaws
import Derived.Deep.DeepCutAuto
import Derived.Deep.CutBlock
import Derived.Deep.RegionHeld3
import Derived.Laws.Rows
import Derived.Lib.AppendStr
import Derived.ArgAppend
import Derived.Laws.IdiomCopy
import Derived.OrdersHeld
import Derived.Laws.BitsLemmas
import Derived.RowKit
import Derived.Maps.OwnSet
set_option linter.unusedVariables false
set_option linter.unusedSimpArgs false
set_option maxRecDepth 100000
set_option maxHeartbeats 16000000
namespace Go.Proofs.YtldgmneijipbjaaGreatDoor.H
structure cB (p:Prop):Prop where
 out:p
theorem afG {p:Prop}(h:p:=by
 have HS:=hide (xM h s hs hms);have hV:nT st en s=(.agg #[.int .i64 0,.int .i64 k,.int .i64 d,.string s,.bool false],true,f):=by unfold nT;rw[hP]
 rw[hV]at HS;obtain⟨tn,tk,tp,ti,tc,hT,h46⟩:=Em st s;rw[hza]at h46;have HT:=hide hT;have H:=hide h;have sF:=hide (show s.size≤maxLen by unfold maxLen;omega);clear h hV hP hT hza;go_enter Tryz.func78,Tryz.ntmps78;go_wp2_with (go_at_call 79;refine Aside0.out ?_);refine⟨?_⟩;refine HS.out.mono ?_;rintro e w2 ⟨rfl,h2⟩;have HB:=hide h2;clear h2;have hB3:Below w.heap.size w (w2.alloc (.cells #[.int .i64 0,.int .i64 k,.int .i64 d,.string s,.bool false] 37)):=au HB.out _;have hg3:(w2.alloc (.cells #[.int .i64 0,.int .i64 k,.int .i64 d,.string s,.bool false] 37)).heap[m.g]?=some (.cells (m.cells st en) 56 (0,0)):=(hB3.block _ (H.out.hi _ (.inl rfl))).trans H.out.blk;have g0:(w2.alloc (.cells #[.int .i64 0,.int .i64 k,.int .i64 d,.string s,.bool false] 37)).cell? ⟨m.g,0,none⟩=some (.map (some m.mt)):=(aj hg3 0).trans rfl;have yA:=hide (H.out.mt.same (hB3.block _ H.out.mt.lt));have HB3:=hide hB3;clear hB3 hg3;go_wp2_with (at_lookup;refine qO _ (by rfl) _ _ 52 rfl 43 Tryz.underlying52 (kT _) m.mt _ _ (kS st.aN) rfl yA.out s rfl sF.out (.agg #[.string tn,.int .i64 tk,.int .i64 tp,.int .i64 ti,.bool tc]) (by rw[HT.out]) ?_);clear g0 h46 hk;obtain⟨W4,KW⟩:∃W4,w2.alloc (.cells #[.int .i64 pos,.int .i64 k,.int .i64 d,.string s,.bool false] 37)=W4:=⟨_,rfl⟩;rw[KW];have jV:=hide (show Below w.heap.size w W4 from KW▸au HB.out _);have HX4:=hide (show W4.heap[w2.heap.size]?=some (.cells #[.int .i64 pos,.int .i64 k,.int .i64 d,.string s,.bool false] 37 (0,0))from KW▸aR w2 _);have PX:=hide ((jV.out.block _ (H.out.hi _ (.inl rfl))).trans H.out.blk);have HD:=hide (show D≤W4.heap.size from Nat.le_trans H.out.lg (Nat.le_of_lt (ay PX.out)));have Dk:=hide (fun(W:World) (hb:Below W4.heap.size W4 W)=>show W.cell? ⟨m.g,2,none⟩=some (m.vu)∧W.cell? ⟨w2.heap.size,0,none⟩=some (.int .i64 pos)∧W.cell? ⟨w2.heap.size,1,none⟩=some (.int .i64 k)∧W.cell? ⟨w2.heap.size,2,none⟩=some (.int .i64 d)∧W.cell? ⟨w2.heap.size,3,none⟩=some (.string s)∧W.cell? ⟨w2.heap.size,4,none⟩=some (.bool false)from⟨(aj ((hb.block _ (ay PX.out)).trans PX.out) 2).trans rfl,(aj ((hb.block _ (ay HX4.out)).trans HX4.out) 0).trans rfl,(aj ((hb.block _ (ay HX4.out)).trans HX4.out) 1).trans rfl,(aj ((hb.block _ (ay HX4.out)).trans HX4.out) 2).trans rfl,(aj ((hb.block _ (ay HX4.out)).trans HX4.out) 3).trans rfl,(aj ((hb.block _ (ay HX4.out)).trans HX4.out) 4).trans rfl⟩);clear KW;have hb0:Below W4.heap.size W4 W4.drew:=bq (Below.refl _ _);refine bX (n:=11) (S:=fun w'=>w'.cell? ⟨m.g,2,none⟩=some (m.vu)∧w'.cell? ⟨w2.heap.size,0,none⟩=some (.int .i64 pos)∧w'.cell? ⟨w2.heap.size,1,none⟩=some (.int .i64 k)∧w'.cell? ⟨w2.heap.size,2,none⟩=some (.int .i64 d)∧w'.cell? ⟨w2.heap.size,3,none⟩=some (.string s)∧w'.cell? ⟨w2.heap.size,4,none⟩=some (.bool false)) (ds:=[7,10]) #[false,false,false,false,false,false,false,false,false,false,false] (by kernel_rfl) rfl rfl (Dk.out _ hb0) (fun hHeld=>?_);obtain⟨we,hwd⟩:∃wd,wd=W4.drew:=⟨_,rfl⟩;rw[←hwd]at hHeld⊢;have E0:=hide (show Below W4.heap.size W4 we by rw[hwd];exact hb0);clear hwd hb0;refine pv 0 38 ?_;refine pv 1 39 ?_;refine pv 2 40 ?_;refine pv 3 41 ?_;refine tv 4 42 hHeld ?_;refine tv 5 43 hHeld ?_;refine iw (i:=6) (N:=some 44) #[true,true,true,true,true,true,true,false,false,false,false] rfl rfl (by kernel_rfl) (by decide) (fun K hK=>?_);refine gW (w1:=?_) (v:=?_) (by rfl) rfl ?_ ?_;rotate_left 2
 ·go_simp
  constructor
  ·rfl
  ·rfl
 have E1:=hide (E0.out.trans ((au (Below.refl we.heap.size we) (.cells #[.int .i64 pos,.int .i64 k,.int .i64 d,.string s,.bool false] 37)).mono E0.out.size));refine hK.out _ _ (Dk.out _ E1.out) (fun hHeld=>?_);clear hK K;refine cK (a':=?_) ?_ ?_;rotate_left
 ·show Act.put _ (some 44) _=_
  simp only[Act.put,List.setIfInBounds_toArray,List.set_cons_zero,List.set_cons_succ,fU,fV];rfl
 refine eF (i:=7) (N:=some 45) #[true,true,true,true,true,true,true,true,false,false,false] rfl rfl (by kernel_rfl) (by decide) (fun K hK=>?_);refine Kd.cZ K5 (w0:=we) D (by rfl) (.tmp 42) (.tmp 44) 26 37 xH 48 rfl Tryz.underlying26 jZ rfl (by decide) (by omega) m.vu (st.uses.map bV.cs) (bV.cs (⟨pos,k,d,s,false⟩:bV)) [.int .i64 pos,.int .i64 k,.int .i64 d,.string s,.bool false] (fun k=>D≤k) (fun _=>False) rfl rfl ⟨rfl,rfl,by simp[Value.oneCell']⟩ (fun _ hk=>hk.elim) (fun k hk=>Nat.le_trans HD.out (Nat.le_trans E0.out.size hk)) (Kd.bS (Kd.bS H.out.vu jV.out) E0.out) (Below.refl _ _) (Nat.le_trans HD.out E0.out.size) (by rw[List.length_map];omega) ?_;intro v1 w6 h1 h2 h3 h4;obtain⟨A9,c9,rfl,-,-⟩:=Kd.bL h1;rw[show(st.uses.map bV.cs++[bV.cs (⟨pos,k,d,s,false⟩:bV)]).length=st.uses.length+1 from by simp]at h1 h4;have F1:=hide h1;have F3:=hide h3;have F4:=hide h4;clear h1 h2 h3 h4;have f6:=aQ ((F3.out.block _ (Nat.lt_of_lt_of_le (ay PX.out) E0.out.size) (fun e=>H.out.qj.2.2.2.1 e.symm)).trans ((E0.out.block _ (ay PX.out)).trans PX.out)) 2;have e6:=(aj ((F3.out.block _ (Nat.lt_of_lt_of_le (ay PX.out) E0.out.size) (fun e=>H.out.qj.2.2.2.1 e.symm)).trans ((E0.out.block _ (ay PX.out)).trans PX.out)) 2).trans rfl;refine hK.out _ _ ?_;clear hK K;refine cK (a':=?_) ?_ ?_;rotate_left
 ·show Act.put _ (some 45) _=_
  simp only[Act.put,List.setIfInBounds_toArray,List.set_cons_zero,List.set_cons_succ,fU,fV];rfl
 refine pv 8 46 ?_;refine pv 9 47 ?_;refine eF (i:=10) (N:=none) #[true,true,true,true,true,true,true,true,true,true,true] rfl rfl (by kernel_rfl) (by decide) (fun K hK=>?_);refine gy (w1:=?_) (by rfl) rfl ?_ ?_;rotate_left
 ·go_simp
  rfl
 refine hK.out _ _ ?_;clear hK K;refine dP (by kernel_rfl) ?_;go_wp2;go_end0;exact⟨rfl,zQ.make (t:=(⟨pos,k,d,s,false⟩:bV)) H.out jV.out E0.out F3.out F1.out F4.out⟩):p:=h
theorem aqL {p:Prop}(h:p:=by
 cases zq with
 |true=>
  go_wp2
  try rw[hW2]
  clear hW2;have hb0:Below W2.heap.size W2 W2.drew:=bq (Below.refl _ _);refine bX (n:=40) (S:=fun w'=>w'.cell? ⟨wr.heap.size,0,none⟩=some (.int .i64 yk)∧w'.cell? ⟨wr.heap.size,1,none⟩=some (.string ys)∧w'.cell? ⟨wr.heap.size,2,none⟩=some (.int .i64 yn)∧w'.cell? ⟨wr.heap.size,3,none⟩=some (.slice (some eB) 1 c')∧w'.cell? eB=some (.int .i64 t.f0)∧w'.cell? ⟨eB.block,eB.off+1,none⟩=some (.string t.f1)∧w'.cell? ⟨eB.block,eB.off+2,none⟩=some (.int .i64 t.f2)∧w'.cell? ⟨eB.block,eB.off+3,none⟩=some (.slice A2 t.f3.length c2)) (ds:=[]) #[false,false,false,false,false,false,false,false,false,false,false,false,false,false,false,false,false,false,false,false,false,false,false,false,false,false,false,false,false,false,false,false,false,false,false,false,false,false,false,false] (by kernel_rfl) rfl rfl ⟨(kU.out _ hb0).1,(kU.out _ hb0).2.1,(kU.out _ hb0).2.2.1,(kU.out _ hb0).2.2.2,(iI.out _ (HB2.out.trans ((hb0).mono HB2.out.size))).1,(iI.out _ (HB2.out.trans ((hb0).mono HB2.out.size))).2.1,(iI.out _ (HB2.out.trans ((hb0).mono HB2.out.size))).2.2.1,(iI.out _ (HB2.out.trans ((hb0).mono HB2.out.size))).2.2.2⟩ (fun hHeld=>?_);obtain⟨wd,hwd⟩:∃wd,wd=W2.drew:=⟨_,rfl⟩;rw[←hwd]at hHeld⊢;have B0:=hide (show Below W2.heap.size W2 wd by rw[hwd];exact hb0);clear hwd hb0;refine pv 0 37 ?_;refine tv 1 38 hHeld ?_;refine pv 2 39 ?_;refine pv 3 40 ?_;refine pv 4 41 ?_;refine tv 5 42 hHeld ?_;refine pv 6 43 ?_;refine pv 7 44 ?_;refine pv 8 45 ?_;refine pv 9 46 ?_;refine tv 10 47 hHeld ?_;refine pv 11 48 ?_;refine pv 12 49 ?_;refine pv 13 50 ?_;refine pv 14 51 ?_;refine pv 15 52 ?_;refine tv 16 53 hHeld ?_;refine pv 17 54 ?_;refine tv 18 55 hHeld ?_;refine iw (i:=19) (N:=some 56) #[true,true,true,true,true,true,true,true,true,true,true,true,true,true,true,true,true,true,true,true,false,false,false,false,false,false,false,false,false,false,false,false,false,false,false,false,false,false,false,false] rfl rfl (by kernel_rfl) (by decide) (fun K hK=>?_);refine nQ Tryz.func93 (by kernel_rfl) rfl #[.agg #[.int .i64 t.f0,.string t.f1,.int .i64 t.f2,.slice A2 t.f3.length c2]] (by rfl) rfl rfl (by simp only[List.map_toArray,List.map_cons,List.map_nil];rfl) ?_;with_reducible refine(HPO.out _).mono ?_
  rintro e w3 ⟨rfl,hk⟩;refine⟨_,rfl,?_⟩;have B1:=hide (B0.out.trans (hk.mono B0.out.size));clear hk;refine hK.out _ _ ⟨(kU.out _ B1.out).1,(kU.out _ B1.out).2.1,(kU.out _ B1.out).2.2.1,(kU.out _ B1.out).2.2.2,(iI.out _ (HB2.out.trans ((B1.out).mono HB2.out.size))).1,(iI.out _ (HB2.out.trans ((B1.out).mono HB2.out.size))).2.1,(iI.out _ (HB2.out.trans ((B1.out).mono HB2.out.size))).2.2.1,(iI.out _ (HB2.out.trans ((B1.out).mono HB2.out.size))).2.2.2⟩ (fun hHeld=>?_);clear hK K;refine cK (a':=?_) ?_ ?_;rotate_left
  ·show Act.put _ (some 56) _=_
   simp only[Act.put,List.setIfInBounds_toArray,List.set_cons_zero,List.set_cons_succ,fU,fV];rfl
  refine pv 20 57 ?_;refine pv 21 58 ?_;refine pv 22 59 ?_;refine tv 23 60 hHeld ?_;refine pv 24 61 ?_;refine tv 25 62 hHeld ?_;refine iw (i:=26) (N:=some 63) #[true,true,true,true,true,true,true,true,true,true,true,true,true,true,true,true,true,true,true,true,true,true,true,true,true,true,true,false,false,false,false,false,false,false,false,false,false,false,false,false] rfl rfl (by kernel_rfl) (by decide) (fun K hK=>?_);refine nQ Tryz.func96 (by kernel_rfl) rfl #[.agg #[.int .i64 t.f0,.string t.f1,.int .i64 t.f2,.slice A2 t.f3.length c2],.bool true] (by rfl) rfl rfl (by simp only[List.map_toArray,List.map_cons,List.map_nil];rfl) ?_;with_reducible refine(S9.out _).mono ?_
  rintro e w4 ⟨rfl,hk⟩;refine⟨_,rfl,?_⟩;have B2:=hide (B1.out.trans (hk.mono B1.out.size));clear hk;refine hK.out _ _ ⟨(kU.out _ B2.out).1,(kU.out _ B2.out).2.1,(kU.out _ B2.out).2.2.1,(kU.out _ B2.out).2.2.2,(iI.out _ (HB2.out.trans ((B2.out).mono HB2.out.size))).1,(iI.out _ (HB2.out.trans ((B2.out).mono HB2.out.size))).2.1,(iI.out _ (HB2.out.trans ((B2.out).mono HB2.out.size))).2.2.1,(iI.out _ (HB2.out.trans ((B2.out).mono HB2.out.size))).2.2.2⟩ (fun hHeld=>?_);clear hK K;refine cK (a':=?_) ?_ ?_;rotate_left
  ·show Act.put _ (some 63) _=_
   simp only[Act.put,List.setIfInBounds_toArray,List.set_cons_zero,List.set_cons_succ,fU,fV];rfl
  refine pv 27 64 ?_;refine pv 28 65 ?_;refine pv 29 66 ?_;refine pv 34 71 ?_;refine tv 30 67 hHeld ?_;refine pv 31 68 ?_;refine pv 32 69 ?_;refine tv 33 70 hHeld ?_;refine tv 35 72 hHeld ?_;refine pv 36 73 ?_;refine pv 37 74 ?_;refine pv 38 75 ?_;refine pv 39 76 ?_;refine dP (by kernel_rfl) ?_;have HB3:=hide (HB2.out.trans (B2.out.mono HB2.out.size));have HW3:=hide B2.out;go_wp2;go_ret
  first|(refine⟨aI ?_,J.out.b0.trans (HB3.out.mono J.out.b0.size)⟩;rw[fH.out,HST.out ?_];(try rfl);(try rw[iy.out]);simp[*];done)
 |false=>
  go_wp2
  try rw[hW2]
  clear hW2;have hb0:Below W2.heap.size W2 W2.drew:=bq (Below.refl _ _);refine bX (n:=40) (S:=fun w'=>w'.cell? ⟨wr.heap.size,0,none⟩=some (.int .i64 yk)∧w'.cell? ⟨wr.heap.size,1,none⟩=some (.string ys)∧w'.cell? ⟨wr.heap.size,2,none⟩=some (.int .i64 yn)∧w'.cell? ⟨wr.heap.size,3,none⟩=some (.slice (some eB) 1 c')∧w'.cell? eB=some (.int .i64 t.f0)∧w'.cell? ⟨eB.block,eB.off+1,none⟩=some (.string t.f1)∧w'.cell? ⟨eB.block,eB.off+2,none⟩=some (.int .i64 t.f2)∧w'.cell? ⟨eB.block,eB.off+3,none⟩=some (.slice A2 t.f3.length c2)) (ds:=[]) #[false,false,false,false,false,false,false,false,false,false,false,false,false,false,false,false,false,false,false,false,false,false,false,false,false,false,false,false,false,false,false,false,false,false,false,false,false,false,false,false] (by kernel_rfl) rfl rfl ⟨(kU.out _ hb0).1,(kU.out _ hb0).2.1,(kU.out _ hb0).2.2.1,(kU.out _ hb0).2.2.2,(iI.out _ (HB2.out.trans ((hb0).mono HB2.out.size))).1,(iI.out _ (HB2.out.trans ((hb0).mono HB2.out.size))).2.1,(iI.out _ (HB2.out.trans ((hb0).mono HB2.out.size))).2.2.1,(iI.out _ (HB2.out.trans ((hb0).mono HB2.out.size))).2.2.2⟩ (fun hHeld=>?_);obtain⟨wd,hwd⟩:∃wd,wd=W2.drew:=⟨_,rfl⟩;rw[←hwd]at hHeld⊢;have B0:=hide (show Below W2.heap.size W2 wd by rw[hwd];exact hb0);clear hwd hb0;refine pv 0 37 ?_;refine tv 1 38 hHeld ?_;refine pv 2 39 ?_;refine pv 3 40 ?_;refine pv 4 41 ?_;refine tv 5 42 hHeld ?_;refine pv 6 43 ?_;refine pv 7 44 ?_;refine pv 8 45 ?_;refine pv 9 46 ?_;refine tv 10 47 hHeld ?_;refine pv 11 48 ?_;refine pv 12 49 ?_;refine pv 13 50 ?_;refine pv 14 51 ?_;refine pv 15 52 ?_;refine tv 16 53 hHeld ?_;refine pv 17 54 ?_;refine tv 18 55 hHeld ?_;refine iw (i:=19) (N:=some 56) #[true,true,true,true,true,true,true,true,true,true,true,true,true,true,true,true,true,true,true,true,false,false,false,false,false,false,false,false,false,false,false,false,false,false,false,false,false,false,false,false] rfl rfl (by kernel_rfl) (by decide) (fun K hK=>?_);refine nQ Tryz.func93 (by kernel_rfl) rfl #[.agg #[.int .i64 t.f0,.string t.f1,.int .i64 t.f2,.slice A2 t.f3.length c2]] (by rfl) rfl rfl (by simp only[List.map_toArray,List.map_cons,List.map_nil];rfl) ?_;with_reducible refine(HPO.out _).mono ?_
  rintro e w3 ⟨rfl,hk⟩;refine⟨_,rfl,?_⟩;have B1:=hide (B0.out.trans (hk.mono B0.out.size));clear hk;refine hK.out _ _ ⟨(kU.out _ B1.out).1,(kU.out _ B1.out).2.1,(kU.out _ B1.out).2.2.1,(kU.out _ B1.out).2.2.2,(iI.out _ (HB2.out.trans ((B1.out).mono HB2.out.size))).1,(iI.out _ (HB2.out.trans ((B1.out).mono HB2.out.size))).2.1,(iI.out _ (HB2.out.trans ((B1.out).mono HB2.out.size))).2.2.1,(iI.out _ (HB2.out.trans ((B1.out).mono HB2.out.size))).2.2.2⟩ (fun hHeld=>?_);clear hK K;refine cK (a':=?_) ?_ ?_;rotate_left
  ·show Act.put _ (some 56) _=_
   simp only[Act.put,List.setIfInBounds_toArray,List.set_cons_zero,List.set_cons_succ,fU,fV];rfl
  refine pv 20 57 ?_;refine pv 21 58 ?_;refine pv 22 59 ?_;refine tv 23 60 hHeld ?_;refine pv 24 61 ?_;refine tv 25 62 hHeld ?_;refine iw (i:=26) (N:=some 63) #[true,true,true,true,true,true,true,true,true,true,true,true,true,true,true,true,true,true,true,true,true,true,true,true,true,true,true,false,false,false,false,false,false,false,false,false,false,false,false,false] rfl rfl (by kernel_rfl) (by decide) (fun K hK=>?_);refine nQ Tryz.func96 (by kernel_rfl) rfl #[.agg #[.int .i64 t.f0,.string t.f1,.int .i64 t.f2,.slice A2 t.f3.length c2],.bool true] (by rfl) rfl rfl (by simp only[List.map_toArray,List.map_cons,List.map_nil];rfl) ?_;with_reducible refine(S9.out _).mono ?_
  rintro e w4 ⟨rfl,hk⟩;refine⟨_,rfl,?_⟩;have B2:=hide (B1.out.trans (hk.mono B1.out.size));clear hk;refine hK.out _ _ ⟨(kU.out _ B2.out).1,(kU.out _ B2.out).2.1,(kU.out _ B2.out).2.2.1,(kU.out _ B2.out).2.2.2,(iI.out _ (HB2.out.trans ((B2.out).mono HB2.out.size))).1,(iI.out _ (HB2.out.trans ((B2.out).mono HB2.out.size))).2.1,(iI.out _ (HB2.out.trans ((B2.out).mono HB2.out.size))).2.2.1,(iI.out _ (HB2.out.trans ((B2.out).mono HB2.out.size))).2.2.2⟩ (fun hHeld=>?_);clear hK K;refine cK (a':=?_) ?_ ?_;rotate_left
  ·show Act.put _ (some 63) _=_
   simp only[Act.put,List.setIfInBounds_toArray,List.set_cons_zero,List.set_cons_succ,fU,fV];rfl
  refine pv 27 64 ?_;refine pv 28 65 ?_;refine pv 29 66 ?_;refine pv 34 71 ?_;refine tv 30 67 hHeld ?_;refine pv 31 68 ?_;refine pv 32 69 ?_;refine tv 33 70 hHeld ?_;refine tv 35 72 hHeld ?_;refine pv 36 73 ?_;refine pv 37 74 ?_;refine pv 38 75 ?_;refine pv 39 76 ?_;refine dP (by kernel_rfl) ?_;have HB3:=hide (HB2.out.trans (B2.out.mono HB2.out.size));have HW3:=hide B2.out;obtain⟨y30,y31,y32,y33⟩:=kU.out _ HW3.out;obtain⟨q30,q31,q32,q33⟩:=dI.out _ (J.out.b1.trans (HB3.out.mono J.out.sz))
  go_wp2_with (first
   |(go_at_call 87;(with_reducible refine(Mj.out _).mono ?_);rintro e u4 ⟨rfl,h4⟩;have jV:=hide (HB3.out.trans (h4.mono HB3.out.size));have HW4:=hide (HW3.out.trans (h4.mono HW3.out.size));obtain⟨y40,y41,y42,y43⟩:=kU.out _ HW4.out;obtain⟨q40,WS,q42,q43⟩:=dI.out _ (J.out.b1.trans (jV.out.mono J.out.sz));clear h4)
   |(go_at_call 13;(with_reducible refine(EG.out _).mono ?_);rintro e u5 ⟨rfl,h5⟩;have vB:=hide (jV.out.trans (h5.mono jV.out.size));have HW5:=hide (HW4.out.trans (h5.mono HW4.out.size));obtain⟨y50,y51,y52,y53⟩:=kU.out _ HW5.out;obtain⟨q50,q51,q52,q53⟩:=dI.out _ (J.out.b1.trans (vB.out.mono J.out.sz));clear h5))
  all_goals first
   |(go_ret;first|(refine⟨aI ?_,J.out.b0.trans (vB.out.mono J.out.b0.size)⟩;rw[fH.out,HST.out ?_];(try rfl);(try rw[iy.out]);simp[*];done)|(refine⟨aI ?_,J.out.b0.trans (jV.out.mono J.out.b0.size)⟩;rw[fH.out,HST.out ?_];(try rfl);(try rw[iy.out]);simp[*];done)|(refine⟨aI ?_,J.out.b0.trans (HB3.out.mono J.out.b0.size)⟩;rw[fH.out,HST.out ?_];(try rfl);(try rw[iy.out]);simp[*];done))
   |(have Q2:=hide (jL.out _ (by rw[iy.out];simp[*]) vB.out);go_roundg (len-i);(case measure=>omega);(case rel=>exact⟨i+1,by omega,by omega,by go_num,Q2⟩))
   |(have Q2:=hide (jL.out _ (by rw[iy.out];simp[*]) jV.out);go_roundg (len-i);(case measure=>omega);(case rel=>exact⟨i+1,by omega,by omega,by go_num,Q2⟩))
   |(have Q2:=hide (jL.out _ (by rw[iy.out];simp[*]) HB3.out);go_roundg (len-i);(case measure=>omega);(case rel=>exact⟨i+1,by omega,by omega,by go_num,Q2⟩))):p:=h
theorem agu {p:Prop}(h:p:=by
 have d1:(w2.alloc (.cells #[.string tn,.int .i64 tk,.int .i64 tp,.int .i64 ti,.bool tc] 43)).cell? ⟨w2.heap.size,1,none⟩=some (.int .i64 tk):=(aj (aR w2 _) 1).trans rfl;go_wp2;clear d1;obtain⟨W3,hW3⟩:∃W3,w2.alloc (.cells #[.string tn,.int .i64 tk,.int .i64 tp,.int .i64 ti,.bool tc] 43)=W3:=⟨_,rfl⟩;rw[hW3];have hbx:W3.heap[w2.heap.size]?=some (.cells #[.string tn,.int .i64 tk,.int .i64 tp,.int .i64 ti,.bool tc] 43 (0,0)):=hW3▸aR w2 _;have hfr:Fr m.own w W3:=hW3▸Fr.of_below (au HB.out _);have HF:=hide (show RF D W3 m s from hW3▸H.out.below (au HB.out _));clear hW3;have dI:=hide hbx;have Yn:=hide hfr;have HD:=hide (show D≤W3.heap.size from Nat.le_trans Af.out hfr.size);have HS:=hide (fun(W:World) (hb:Below W3.heap.size W3 W)=>show W.cell? ⟨m.g,1,none⟩=some (m.vu)∧W.cell? ⟨w2.heap.size,2,none⟩=some (.int .i64 tp)from⟨(aj ((hb.block _ (ay HF.out.blk)).trans HF.out.blk) 1).trans rfl,(aj ((hb.block _ (ay dI.out)).trans dI.out) 2).trans rfl⟩);have HU:=hide (show(s:RS).uses=s.uses from rfl);clear hbx hfr c0 k0 k1 k2 k3 k4 vP h46;have hb0:Below W3.heap.size W3 W3.drew:=bq (Below.refl _ _);refine bX (n:=16) (S:=fun w'=>w'.cell? ⟨m.g,1,none⟩=some (m.vu)∧w'.cell? ⟨w2.heap.size,2,none⟩=some (.int .i64 tp)) (ds:=[12,15]) #[false,false,false,false,false,false,false,false,false,false,false,false,false,false,false,false] (by kernel_rfl) rfl rfl ⟨(HS.out _ hb0).1,(HS.out _ hb0).2⟩ (fun hHeld=>?_);obtain⟨we,hwd⟩:∃wd,wd=W3.drew:=⟨_,rfl⟩;rw[←hwd]at hHeld⊢;have E0:=hide (show Below W3.heap.size W3 we by rw[hwd];exact hb0);clear hwd hb0;refine pv 0 38 ?_;refine pv 1 39 ?_;refine pv 2 40 ?_;refine pv 3 41 ?_;refine pv 5 43 ?_;refine pv 6 44 ?_;refine pv 7 45 ?_;refine pv 9 47 ?_;refine tv 4 42 hHeld ?_;refine tv 8 46 hHeld ?_;refine pv 10 48 ?_;refine iw (i:=11) (N:=some 49) #[true,true,true,true,true,true,true,true,true,true,true,true,false,false,false,false] rfl rfl (by kernel_rfl) (by decide) (fun K hK=>?_);refine gW (w1:=?_) (v:=?_) (by rfl) rfl ?_ ?_;rotate_left 2
 ·go_simp
  constructor
  ·rfl
  ·rfl
 have E1:=hide (E0.out.trans ((au (Below.refl we.heap.size we) (.cells #[.int .i64 p,.int .i64 3,.int .i64 tp,.string name,.bool false] 37)).mono E0.out.size));refine hK.out _ _ ⟨(HS.out _ E1.out).1,(HS.out _ E1.out).2⟩ (fun hHeld=>?_);clear hK K;refine cK (a':=?_) ?_ ?_;rotate_left
 ·show Act.put _ (some 49) _=_
  simp only[Act.put,List.setIfInBounds_toArray,List.set_cons_zero,List.set_cons_succ,fU,fV];rfl
 refine eF (i:=12) (N:=some 50) #[true,true,true,true,true,true,true,true,true,true,true,true,true,false,false,false] rfl rfl (by kernel_rfl) (by decide) (fun K hK=>?_);refine Kd.cZ K5 (w0:=we) D (by rfl) (.tmp 42) (.tmp 49) 26 37 xH 48 rfl Tryz.underlying26 jZ rfl (by decide) (by omega) m.vu (_:List (List Value)) (bV.cs (⟨p,3,tp,name,false⟩:bV)) [.int .i64 p,.int .i64 3,.int .i64 tp,.string name,.bool false] (fun k=>D≤k) (fun _=>False) rfl rfl ⟨rfl,rfl,by simp[Value.oneCell']⟩ (fun _ hk=>hk.elim) (fun k hk=>Nat.le_trans HD.out (Nat.le_trans E0.out.size hk)) (Kd.bS HF.out.vu E0.out) (Below.refl _ _) (Nat.le_trans HD.out E0.out.size) (by rw[List.length_map];first|omega|(have:=Oc.out;omega)) ?_;intro v1 w6 h1 h2 h3 h4;obtain⟨A9,c9,rfl,-,-⟩:=Kd.bL h1;rw[List.length_append,List.length_map]at h1 h4;have F1:=hide h1;have F3:=hide h3;have F4:=hide h4;clear h1 h2 h3 h4;have f6:=aQ ((F3.out.block _ (Nat.lt_of_lt_of_le (ay HF.out.blk) E0.out.size) (fun e=>HF.out.qj.2.1 e.symm)).trans ((E0.out.block _ (ay HF.out.blk)).trans HF.out.blk)) 1;have e6:=(aj ((F3.out.block _ (Nat.lt_of_lt_of_le (ay HF.out.blk) E0.out.size) (fun e=>HF.out.qj.2.1 e.symm)).trans ((E0.out.block _ (ay HF.out.blk)).trans HF.out.blk)) 1).trans rfl;refine hK.out _ _ ?_;clear hK K;refine cK (a':=?_) ?_ ?_;rotate_left
 ·show Act.put _ (some 50) _=_
  simp only[Act.put,List.setIfInBounds_toArray,List.set_cons_zero,List.set_cons_succ,fU,fV];rfl
 refine pv 13 51 ?_;refine pv 14 52 ?_;refine eF (i:=15) (N:=none) #[true,true,true,true,true,true,true,true,true,true,true,true,true,true,true,true] rfl rfl (by kernel_rfl) (by decide) (fun K hK=>?_);refine gy (w1:=?_) (by rfl) rfl ?_ ?_;rotate_left
 ·go_simp
  rfl
 refine hK.out _ _ ?_;clear hK K;refine dP (by kernel_rfl) ?_;have Lg:w6.heap[w2.heap.size]?=some (.cells #[.string tn,.int .i64 tk,.int .i64 tp,.int .i64 ti,.bool tc] 43 (0,0)):=(F3.out.block _ (Nat.lt_of_lt_of_le (ay dI.out) E0.out.size) (fun e=>by have:=H.out.hi _ (.inr (.inr (.inl e.symm)));have:=HB.out.size;omega)).trans ((E0.out.block _ (ay dI.out)).trans dI.out);have hgb:w2.heap.size≠m.g:=fun e=>by have:=H.out.hi _ (.inl rfl);have:=HB.out.size;omega
 have e4:∀u,(w6.setCell ⟨m.g,1,none⟩ u).cell? ⟨w2.heap.size,4,none⟩=some (.bool tc):=fun u=>(aj ((Below.heap_setCell _ _ _ _ hgb).trans Lg) 4).trans rfl;clear Lg hgb;go_wp2;go_ret;have hmk:=Rk.wJ (t:=(⟨p,3,tp,name,false⟩:bV)) HF.out (Below.refl _ _) E0.out F3.out F1.out F4.out
 have hrs:rs=({(s:RS)with uses:=s.uses++[(⟨p,3,tp,name,false⟩:bV)]},!tc):=by
  rw[jo.out,HKK.out];rw[if_neg (fun e=>by have:=Yt.out.1 e;cases this)]
  try rfl
 rw[hrs];refine⟨rfl,?_⟩;have h9:=Rk.trans (RM.Up.refl _ _) Yn.out hmk
 skip
 exact h9):p:=h
theorem agC {p:Prop}(h:p:=by
 have avJ:(t:Int)<(L:Int):=by omega
 have hge:(0:Int)≤(t:Int):=by omega
 obtain⟨d,hd⟩:∃d,s1.aT[t]?=some d:=⟨_,List.getElem?_eq_getElem (by rw[HL.out];exact hlj)⟩;obtain⟨dn,dp,df⟩:=d;have Jr:=hide hd;obtain⟨hC,hnn⟩:=Oq.C_l Dt.out;obtain⟨bd,rfl,j0,j1,j2⟩:=Yq hC hd hnn
 have HS:=hide (fun(W:World) (hb:Below wq.heap.size wq W)=>show W.cell? ⟨m1.g,2,none⟩=some (.slice (some bd) L cl)∧W.cell? (bd.add (t*3))=some (.string dn)∧W.cell? ⟨wo.heap.size,1,none⟩=some (.string y.f1)from by
  obtain⟨hC,hnn⟩:=(CP.out.below hb).C_l Dt.out;obtain⟨JB,e,k0,k1,k2⟩:=Yq hC Jr.out hnn
  cases e
  exact⟨by rw[←Dt.out];exact(aj ((hb.block _ (ay CP.out.blk)).trans CP.out.blk) 2).trans rfl,k0,(aj ((hb.block _ (ay AO.out)).trans AO.out) 1).trans rfl⟩)
 obtain⟨z,hz⟩:∃z,(dn.toList==y.f1.toList)=z:=⟨_,rfl⟩;have htf:t+1-kE=(t-kE)+1:=by omega
 have HTF:=hide htf
 have hnext:yQ ((s1.aT.drop kE).take (t+1-kE)) y.f1=(th||z):=by
  rw[htf,Sz _ _ ⟨dn,dp,df⟩ _ (by rw[List.getElem?_drop,show kE+(t-kE)=t from by omega];exact Jr.out),Md.out,←hz]
  congr 1
  rw[Bool.eq_iff_iff,beq_iff_eq,decide_eq_true_eq];exact str_eq.symm
 have alg:=hide hnext;clear hnext hd hC hnn j0 j1 j2 Oq htf
 cases th with
 |true=>
  go_wp2;clear c2;have hb0:Below wq.heap.size wq wq.drew:=bq (Below.refl _ _);refine bX (n:=15) (S:=fun w'=>w'.cell? ⟨m1.g,2,none⟩=some (.slice (some bd) L cl)∧w'.cell? (bd.add (t*3))=some (.string dn)∧w'.cell? ⟨wo.heap.size,1,none⟩=some (.string y.f1)) (ds:=[]) #[false,false,false,false,false,false,false,false,false,false,false,false,false,false,false] (by kernel_rfl) rfl rfl ⟨(HS.out _ hb0).1,(HS.out _ hb0).2.1,(HS.out _ hb0).2.2⟩ (fun hHeld=>?_);obtain⟨wd,hwd⟩:∃wd,wd=wq.drew:=⟨_,rfl⟩;rw[←hwd]at hHeld⊢;have E9:=hide (show Below wq.heap.size wq wd by rw[hwd];exact hb0);clear hwd hb0;refine pv 0 45 ?_;refine pv 1 46 ?_;refine pu 2 47 ?_;refine pu 3 48 ?_;refine pu 4 49 ?_;refine pu 5 50 ?_;refine pu 6 51 ?_;refine pu 7 52 ?_;refine pu 8 53 ?_;refine pu 9 54 ?_;refine pu 10 55 ?_;refine pu 11 56 ?_;refine pu 12 57 ?_;refine pv 13 58 ?_;refine pv 14 10 ?_;refine dP (by kernel_rfl) ?_;go_wp2;go_roundg (L-t)
  case measure=>omega
  case rel=>exact⟨t+1,true,by omega,by omega,by omega,by go_num,rfl,hide (by rw[alg.out];rfl),hide (RB.out.trans (E9.out.mono RB.out.size))⟩
 |false=>
  go_wp2;clear c2;have hb0:Below wq.heap.size wq wq.drew:=bq (Below.refl _ _);refine bX (n:=15) (S:=fun w'=>w'.cell? ⟨m1.g,2,none⟩=some (.slice (some bd) L cl)∧w'.cell? (bd.add (t*3))=some (.string dn)∧w'.cell? ⟨wo.heap.size,1,none⟩=some (.string y.f1)) (ds:=[]) #[false,false,false,false,false,false,false,false,false,false,false,false,false,false,false] (by kernel_rfl) rfl rfl ⟨(HS.out _ hb0).1,(HS.out _ hb0).2.1,(HS.out _ hb0).2.2⟩ (fun hHeld=>?_);obtain⟨wd,hwd⟩:∃wd,wd=wq.drew:=⟨_,rfl⟩;rw[←hwd]at hHeld⊢;have E9:=hide (show Below wq.heap.size wq wd by rw[hwd];exact hb0);clear hwd hb0;refine pv 0 45 ?_;refine pv 1 46 ?_;refine pv 2 47 ?_;refine pv 3 48 ?_;refine pv 4 49 ?_;refine pv 6 51 ?_;refine pv 10 55 ?_;refine tv 5 50 hHeld ?_;refine pv 7 52 ?_;refine pv 8 53 ?_;refine tv 9 54 hHeld ?_;refine tv 11 56 hHeld ?_;refine pv 12 57 ?_;refine pv 13 58 ?_;refine pv 14 10 ?_;refine dP (by kernel_rfl) ?_;go_wp2;go_roundg (L-t)
  case measure=>omega
  case rel=>exact⟨t+1,z,by omega,by omega,by omega,by go_num,by first|rfl|simp,hide (by rw[alg.out];simp),hide (RB.out.trans (E9.out.mono RB.out.size))⟩):p:=h
theorem akv {p:Prop}(h:p:=by
 have eY:(i:Int)<(len:Int):=by omega
 obtain⟨y,hy⟩:=eO (l:=l) (i:=i) (by rw[HL.out];exact hlt);obtain⟨ad,A',c',rfl,dR,k0,k1,k2,k3⟩:=jO (by have h:=kL HC.out J.out.b0;rw[←HL.out]at h;exact h) (HTAB.out.below J.out.b0) hy;obtain⟨y0,hy0⟩:=eO (l:=l) (i:=0) (by rw[HL.out];omega);obtain⟨JB,A0,c0,e0,-,-,j1,-,-⟩:=jO (by have h:=kL HC.out J.out.b0;rw[←HL.out]at h;exact h) (HTAB.out.below J.out.b0) hy0
 cases e0
 have hfs:y0.f1=o_ l:=by cases l with|nil=>simp at hy0|cons a l=>simp at hy0;rw[←hy0];rfl
 rw[hfs]at j1;obtain⟨fs,Du⟩:∃fs,o_ l=fs:=⟨_,rfl⟩;rw[Du]at j1;have HJ1:=hide (show wr.cell? ⟨ad.block,ad.off+1,none⟩=some (.string fs)from by rw[kN]at j1;exact j1);clear j1 hy0 hfs;have g_:=qm.out y (List.mem_of_getElem? hy);have HY:=hide hy;have hst:E i=(okJ l.length (o_ l) i y&&E (i+1)):=by rw[←HE.out];simp only;rw[drop_at hy,vL,EH hy]
 rw[HL.out,Du]at hst;obtain⟨yk,ys,yn,yl⟩:=y;simp only at k0 k1 k2 k3;obtain⟨zk,vO⟩:∃z,(yk != 61)=z:=⟨_,rfl⟩;obtain⟨zn,hzn⟩:∃z,(yn != 0)=z:=⟨_,rfl⟩;obtain⟨zp,iO⟩:∃z,eP ys=!z:=⟨!eP ys,by simp⟩;have Mj:=hide (fun W=>m_ ys (by have:=g_.str;simp only at this;omega) W);rw[iO]at Mj;obtain⟨zs,hzs⟩:∃z,(ys.toList==[42])=z:=⟨_,rfl⟩;have hss:pG ys=zs:=hzs;have avK:(ys.toList != [42])=!zs:=by rw[←hzs];rfl
 have alh:=hide (show yj (l.take (i+1))=(yj (l.take i)||zs)from by rw[EH hy,hss]);obtain⟨z3,hz3⟩:∃z,decide ((1:Int)<(i:Int))=z:=⟨_,rfl⟩;have J5:decide (1<i)=z3:=by rw[←hz3,Bool.eq_iff_iff];simp only[decide_eq_true_eq];omega
 obtain⟨z4,hz4⟩:∃z,((i:Int)==1)=z:=⟨_,rfl⟩;have acT:(i==1)=z4:=by rw[←hz4,Bool.eq_iff_iff];simp;omega
 obtain⟨z5,hz5⟩:∃z,(fs.toList==[100,101,102,97,117,108,116])=!z:=⟨!(fs.toList==[100,101,102,97,117,108,116]),by simp⟩;have acU:(!MV fs)=z5:=by unfold MV;rw[hz5];simp
 obtain⟨z6,hz6⟩:∃z,decide ((i:Int)+1<(len:Int))=z:=⟨_,rfl⟩;have yt:decide (i+1<len)=z6:=by rw[←hz6,Bool.eq_iff_iff];simp only[decide_eq_true_eq];omega
 by_cases hone:yl.length=1
 ·obtain⟨t,rfl⟩:=lone hone
  obtain⟨eB,A2,c2,rfl,hra,qa⟩:=sw (x:=⟨yk,ys,yn,[t]⟩) dR (y:=t) rfl;obtain⟨pn,hpn⟩:∃p,sP false t=!p:=⟨!(sP false t),by simp⟩;have S9:=hide (fun W=>show Calls Tryz.prog 96 #[nd t A2 c2,.bool false] W (aH W (!pn))from by rw[←hpn];exact zx t (g_.kid (x:=(⟨yk,ys,yn,[t]⟩:Tr)) (by simp)) false A2 c2 W);unfold nd at S9;have iI:=hide (fun W (h:Below wr.heap.size wr W)=>show W.cell? eB=some (.int .i64 t.f0)∧W.cell? ⟨eB.block,eB.off+1,none⟩=some (.string t.f1)∧W.cell? ⟨eB.block,eB.off+2,none⟩=some (.int .i64 t.f2)∧W.cell? ⟨eB.block,eB.off+3,none⟩=some (.slice A2 t.f3.length c2)from⟨(qa.below h).1,(qa.below h).2.1,(qa.below h).2.2.1,(qa.below h).2.2.2⟩);simp only[List.length_cons,List.length_nil,Nat.zero_add]at k3;have pV:=hide (fun W (h:Below (wr.heap.size+1) (wr.alloc (.cells #[.int .i64 yk,.string ys,.int .i64 yn,.slice (some eB) 1 c'] 24)) W)=>fF yk ys yn (some eB) 1 c' wr W h);have o9:=hide (au (Below.refl wr.heap.size wr) (.cells #[.int .i64 yk,.string ys,.int .i64 yn,.slice (some eB) 1 c'] 24));obtain⟨LJ,LK,LM,LP⟩:=iI.out _ o9.out;obtain⟨q10,q11,q12,q13⟩:=dI.out _ (J.out.b1.trans (o9.out.mono J.out.sz));have iy:=hide (show okJ len fs i (⟨yk,ys,yn,[t]⟩:Tr)=((!zk&&(!zn&&!pn))&&(if zs then !z3&&(!(z4&&z5)&&!z6)else !zp))from by unfold okJ;simp only;rw[iO,hss,J5,acT,acU,yt,aks,hpn,←vO,←hzn];simp[bne]);have jL:=hide (fun w2 h1 h2=>J.out.next (w2:=w2) hst h1 h2);have HST:=hide (J.out.stop hst);clear hpn;clear hy dR g_ hst iO hss J5 acT acU yt hra qa
  go_wp2_with (first
   |(go_at_call 96;(with_reducible refine(S9.out _).mono ?_);rintro e w2 ⟨rfl,h2⟩;have HD2:=hide (show Below (wr.heap.size+1) _ w2 from h2.mono (by simp));have HB2:=hide (o9.out.trans (HD2.out.mono (by omega)));obtain⟨y20,y21,y22,y23⟩:=pV.out _ HD2.out;obtain⟨OZ,O1,O4,O5⟩:=iI.out _ HB2.out;obtain⟨q20,q21,q22,q23⟩:=dI.out _ (J.out.b1.trans (HB2.out.mono J.out.sz));have j2:=ak HB2.out HJ1.out;clear h2)
   |(go_at_call 87;(with_reducible refine(Mj.out _).mono ?_);rintro e w3 ⟨rfl,h3⟩;have HB3:=hide (HB2.out.trans (h3.mono HB2.out.size));have HD3:=hide (HD2.out.trans (h3.mono (by have:=HD2.out.size;simp at this;omega)));obtain⟨y30,y31,y32,y33⟩:=pV.out _ HD3.out;obtain⟨acd,ace,acf,acg⟩:=iI.out _ HB3.out;obtain⟨q30,q31,q32,q33⟩:=dI.out _ (J.out.b1.trans (HB3.out.mono J.out.sz));have j3:=ak HB3.out HJ1.out;clear h3))
  all_goals try (go_ret;first|(refine⟨aI ?_,J.out.b0.trans (HB3.out.mono J.out.b0.size)⟩;rw[fH.out,HST.out ?_];(try rfl);(try rw[iy.out]);simp[*];done)|(refine⟨aI ?_,J.out.b0.trans (HB2.out.mono J.out.b0.size)⟩;rw[fH.out,HST.out ?_];(try rfl);(try rw[iy.out]);simp[*];done)|(refine⟨aI ?_,J.out.b0.trans (o9.out.mono J.out.b0.size)⟩;rw[fH.out,HST.out ?_];(try rfl);(try rw[iy.out]);simp[*];done))
  all_goals first
   |(have Q2:=hide (jL.out _ (by rw[iy.out];simp[*]) HB3.out);go_roundg (len-i);(case measure=>omega);(case rel=>exact⟨i+1,by omega,by omega,by go_num,by rw[alh.out];simp[*],Q2⟩))
   |(have Q2:=hide (jL.out _ (by rw[iy.out];simp[*]) HB2.out);go_roundg (len-i);(case measure=>omega);(case rel=>exact⟨i+1,by omega,by omega,by go_num,by rw[alh.out];simp[*],Q2⟩))
 ·have h1:((yl.length:Int) != 1)=true:=by simp;omega
  have iy:=hide (show okJ len fs i (⟨yk,ys,yn,yl⟩:Tr)=((!zk&&(!zn&&false))&&(if zs then !z3&&(!(z4&&z5)&&!z6)else !zp))from by unfold okJ;simp only;rw[iO,hss,J5,acT,acU,yt,mI (l:=yl) (by simpa using fun e=>hone e.symm),←vO,←hzn];simp[bne]);have jL:=hide (fun w2 h1 h2=>J.out.next (w2:=w2) hst h1 h2);have HST:=hide (J.out.stop hst);obtain⟨jd,fA⟩:∃z,yl.length=z:=⟨_,rfl⟩;rw[fA]at k3 h1;have pV:=hide (fun W (h:Below (wr.heap.size+1) (wr.alloc (.cells #[.int .i64 yk,.string ys,.int .i64 yn,.slice A' jd c'] 24)) W)=>fF yk ys yn A' jd c' wr W h);have o9:=hide (au (Below.refl wr.heap.size wr) (.cells #[.int .i64 yk,.string ys,.int .i64 yn,.slice A' jd c'] 24));clear hy dR g_ hst iO hss J5 acT acU yt fA hone;go_wp2
  all_goals (go_ret;first|(refine⟨aI ?_,J.out.b0.trans (o9.out.mono J.out.b0.size)⟩;rw[fH.out,HST.out ?_];(try rfl);(try rw[iy.out]);simp[*];done))):p:=h
theorem aiu {p:Prop}(h:p:=by
 have HB:=hide (au (Below.refl wr.heap.size wr) (.cells #[.int .i64 yk,.string ys,.int .i64 yn,.slice A' yl.length c'] 24));by_cases hone:yl.length=1
 ·obtain⟨t,rfl⟩:∃t,yl=[t]:=by match yl,hone with|[t],_=>exact⟨t,rfl⟩
  obtain⟨eB,A2,c2,rfl,hrt,m0,m1,m2,m3⟩:=dR.kid (i:=0) (y:=t) rfl;have hft:Fit t:=g_.kid (by simp);rw[show eB.add (0*4)=eB from kN eB]at m0 m1 m2 m3;have hto:toB ys [t]=(UW ys t||gT t):=rfl;have gN:=hide (fun W=>uW t A2 c2 W);have HPT:=hide (fun W h=>pF hft hrt (W2:=W) h);obtain⟨tk,ts,tn,tl⟩:=t;unfold nd at gN;simp only[List.length_cons,List.length_nil,Nat.zero_add]at m0 m1 m2 m3 gN HPT k3 HB;obtain⟨a0,ha0⟩:∃z,(tk==6)=z:=⟨_,rfl⟩;obtain⟨a1,ha1⟩:∃z,(tn==0)=z:=⟨_,rfl⟩;obtain⟨a2,ha2⟩:∃z,((tl.length:Int)==0)=z:=⟨_,rfl⟩;obtain⟨a3,ha3⟩:∃z,eP ts=z:=⟨_,rfl⟩;obtain⟨a4,ha4⟩:∃z,(ts.toList==ys.toList)=!z:=⟨!(ts.toList==ys.toList),by simp⟩;obtain⟨a5,ha5⟩:∃z,gT ⟨tk,ts,tn,tl⟩=!z:=⟨!gT ⟨tk,ts,tn,tl⟩,by simp⟩;rw[ha3]at HPT;rw[ha5]at gN
  have Tn:=hide (show zt=((a0&&(a1&&(a2&&(a3&&a4))))||!a5)from by
   rw[←Ec,hto,ha5];unfold UW;simp only;rw[ha0,ha1,←lH,ha2,ha3,ha4,Bool.not_not])
  obtain⟨tln,ali⟩:∃z,tl.length=z:=⟨_,rfl⟩;rw[ali]at m3 gN ha2;have HT2:=hide (fun W h=>aa1 (wr:=wr) (o1:=#[.int .i64 yk,.string ys,.int .i64 yn,.slice (some eB) 1 c']) (o2:=#[.int .i64 tk,.string ts,.int .i64 tn,.slice A2 tln c2]) (t:=24) W h);have HD:=hide (show Below wr.heap.size wr ((wr.alloc (.cells #[.int .i64 yk,.string ys,.int .i64 yn,.slice (some eB) 1 c'] 24)).alloc (.cells #[.int .i64 tk,.string ts,.int .i64 tn,.slice A2 tln c2] 24))from au HB.out _);obtain⟨b1,b2,b3⟩:=dI.out _ (Q.out.2.trans (HD.out.mono Q.out.2.size));have n0:=fun o=>bY o m0;have n1:=fun o=>bY o m1;have n2:=fun o=>bY o m2;have n3:=fun o=>bY o m3;clear hy dR g_ hrt hft hto Ec hzi iO ali m0 m1 m2 m3
  go_wp2_with (first
   |((with_reducible (go_at_call 66));(with_reducible refine(HPT.out _ HD.out).mono ?_);rintro e w2 ⟨rfl,h2⟩;have sD:=hide (show Below (wr.heap.size+2) _ w2 from h2.mono (by simp));obtain⟨x2,y2⟩:=HT2.out w2 sD.out;have x20:=(x2 0).trans rfl;have x21:=(x2 1).trans rfl;have x22:=(x2 2).trans rfl;have x23:=(x2 3).trans rfl;have y20:=(y2 0).trans rfl;have y21:=(y2 1).trans rfl;have y22:=(y2 2).trans rfl;have y23:=(y2 3).trans rfl;have HD2:=hide (HD.out.trans (sD.out.mono (by omega)));obtain⟨g1,g2,g3⟩:=dI.out w2 (Q.out.2.trans (HD2.out.mono Q.out.2.size));clear h2 x2 y2)
   |((with_reducible (go_at_call 108));refine(gN.out _).mono ?_;rintro e w3 ⟨rfl,h3⟩;(first|have HC3:=hide (sD.out.trans (show Below (wr.heap.size+2) _ w3 from h3.mono (by have:=sD.out.size;simp at this;omega)))|have HC3:=hide (show Below (wr.heap.size+2) _ w3 from h3.mono (by simp)));obtain⟨x3,y3⟩:=HT2.out w3 HC3.out;have x30:=(x3 0).trans rfl;have x31:=(x3 1).trans rfl;have x32:=(x3 2).trans rfl;have x33:=(x3 3).trans rfl;have HD3:=hide (HD.out.trans (HC3.out.mono (by omega)));obtain⟨i1,i2,i3⟩:=dI.out w3 (Q.out.2.trans (HD3.out.mono Q.out.2.size));clear h3 x3 y3)
   |((with_reducible (go_at_call 66));(first|refine(qK.out _ HD3.out).mono ?_|refine(qK.out _ HD2.out).mono ?_);rintro e w4 ⟨rfl,h4⟩;(first|have HD4:=hide (HD3.out.trans (h4.mono HD3.out.size))|have HD4:=hide (HD2.out.trans (h4.mono HD2.out.size)));(first|have x41:=ak h4 x31|have x41:=ak h4 x21);obtain⟨q1,q2,q3⟩:=dI.out w4 (Q.out.2.trans (HD4.out.mono Q.out.2.size));clear h4)
   |((with_reducible (go_at_call 54));refine(FE.out _ HD4.out).mono ?_;rintro e w5 ⟨rfl,h5⟩;have HD5:=hide (HD4.out.trans (h5.mono HD4.out.size));clear h5))
  all_goals try (go_ret;first|exact⟨aI (HST.out (by rw[iy.out,Tn.out];simp[*])).symm,Q.out.1.below.trans (HD5.out.mono Q.out.1.below.size)⟩|exact⟨aI (HST.out (by rw[iy.out,Tn.out];simp[*])).symm,Q.out.1.below.trans (HD4.out.mono Q.out.1.below.size)⟩|exact⟨aI (HST.out (by rw[iy.out,Tn.out];simp[*])).symm,Q.out.1.below.trans (HD3.out.mono Q.out.1.below.size)⟩|exact⟨aI (HST.out (by rw[iy.out,Tn.out];simp[*])).symm,Q.out.1.below.trans (HD2.out.mono Q.out.1.below.size)⟩|exact⟨aI (HST.out (by rw[iy.out,Tn.out];simp[*])).symm,Q.out.1.below.trans (HD.out.mono Q.out.1.below.size)⟩|exact⟨aI (HST.out (by rw[iy.out,Tn.out];simp[*])).symm,Q.out.1.below.trans (HB.out.mono Q.out.1.below.size)⟩)
  all_goals
   first
    |(have Q2:=hide (And.intro (jL.out _ (by rw[iy.out,Tn.out];simp[*]) HD5.out) (Q.out.2.trans (HD5.out.mono Q.out.2.size)));refine Aside0.out ?_)
    |(have Q2:=hide (And.intro (jL.out _ (by rw[iy.out,Tn.out];simp[*]) HD4.out) (Q.out.2.trans (HD4.out.mono Q.out.2.size)));refine Aside0.out ?_)
    |(have Q2:=hide (And.intro (jL.out _ (by rw[iy.out,Tn.out];simp[*]) HD3.out) (Q.out.2.trans (HD3.out.mono Q.out.2.size)));refine Aside0.out ?_)
    |(have Q2:=hide (And.intro (jL.out _ (by rw[iy.out,Tn.out];simp[*]) HD2.out) (Q.out.2.trans (HD2.out.mono Q.out.2.size)));refine Aside0.out ?_)
    |(have Q2:=hide (And.intro (jL.out _ (by rw[iy.out,Tn.out];simp[*]) HD.out) (Q.out.2.trans (HD.out.mono Q.out.2.size)));refine Aside0.out ?_)
   refine⟨?_⟩;go_roundg (len-i)
   case measure=>omega
   case rel=>exact⟨i+1,by omega,by omega,by go_num,Q2⟩
 ·have h1:((yl.length:Int) != 1)=true:=by simp;omega
  have Tn:=hide (show zt=false from by
   rw[←Ec];unfold toB
   split
   ·simp at hone
   ·rfl)
  obtain⟨jd,fA⟩:∃z,yl.length=z:=⟨_,rfl⟩;rw[fA]at k3 h1;rw[fA]at HB;clear hy dR g_ hone fA Ec hzi iO;go_wp2
  all_goals
   go_ret;exact⟨aI (HST.out (by rw[iy.out,Tn.out];simp)).symm,Q.out.1.below.trans (HB.out.mono Q.out.1.below.size)⟩):p:=h
theorem ajK {p:Prop}(h:p:=by
 rw[if_neg (by simp)];go_enter Tryz.func101,Tryz.ntmps101;go_wp2_with (go_at_call 97;refine Aside0.out ?_);refine⟨?_⟩;refine HT.out.mono ?_;rintro e w2 ⟨i,rfl,hix,hb⟩;obtain⟨k,rfl,hk⟩:=qY hix Jv.out;have hf2:=H.out.below hb;have HF:=hide hf2;obtain⟨hC,hln⟩:=hf2.C_t Yr.out;obtain⟨ad,rfl,k0,k1,k2,k3,k4⟩:=Ob hC hk hln;simp only at k0 k1 k2 k3 k4;have hkn:(k:Int)<(n:Int):=by have:=(List.getElem?_eq_some_iff.1 hk).1;omega
 have hk0:(0:Int)≤(k:Int):=by omega
 have c0:w2.cell? ⟨m.g,0,none⟩=some (.slice (some ad) n c):=by rw[←Yr.out];exact(aj hf2.blk 0).trans rfl
 have HK:=hide hk;have HLN:=hide hln;have HB:=hide hb;have HD:=hide (show D≤w2.heap.size from Nat.le_trans Af.out hb.size);clear hix hb hk hf2 hC hln
 have HS:=hide (fun(W:World) (hb:Below w2.heap.size w2 W)=>show W.cell? ⟨m.g,1,none⟩=some (m.vu)∧W.cell? ⟨m.g,0,none⟩=some (.slice (some ad) n c)∧W.cell? ⟨(ad.add (k*5)).block,(ad.add (k*5)).off+2,none⟩=some (.int .i64 tp)from by
  obtain⟨hC,hnn⟩:=(HF.out.below hb).C_t Yr.out;obtain⟨JB,e,k0,k1,k2,k3,k4⟩:=Ob hC HK.out hnn
  cases e
  exact⟨(aj ((hb.block _ (ay HF.out.blk)).trans HF.out.blk) 1).trans rfl,by rw[←Yr.out];exact(aj ((hb.block _ (ay HF.out.blk)).trans HF.out.blk) 0).trans rfl,k2⟩)
 go_wp2;clear c0 k0 k1 k2 k3 k4;have hb0:Below w2.heap.size w2 w2.drew:=bq (Below.refl _ _);refine bX (n:=22) (S:=fun w'=>w'.cell? ⟨m.g,1,none⟩=some (m.vu)∧w'.cell? ⟨m.g,0,none⟩=some (.slice (some ad) n c)∧w'.cell? ⟨(ad.add (k*5)).block,(ad.add (k*5)).off+2,none⟩=some (.int .i64 tp)) (ds:=[18,21]) #[false,false,false,false,false,false,false,false,false,false,false,false,false,false,false,false,false,false,false,false,false,false] (by kernel_rfl) rfl rfl ⟨(HS.out _ hb0).1,(HS.out _ hb0).2.1,(HS.out _ hb0).2.2⟩ (fun hHeld=>?_);obtain⟨we,hwd⟩:∃wd,wd=w2.drew:=⟨_,rfl⟩;rw[←hwd]at hHeld⊢;have E0:=hide (show Below w2.heap.size w2 we by rw[hwd];exact hb0);clear hwd hb0;refine pv 0 58 ?_;refine pv 1 59 ?_;refine pv 2 60 ?_;refine pv 3 61 ?_;refine pv 5 63 ?_;refine pv 6 64 ?_;refine pv 7 65 ?_;refine pv 8 66 ?_;refine pv 9 67 ?_;refine pv 11 69 ?_;refine pv 15 73 ?_;refine tv 4 62 hHeld ?_;refine tv 10 68 hHeld ?_;refine pv 12 70 ?_;refine pv 13 71 ?_;refine tv 14 72 hHeld ?_;refine pv 16 74 ?_;refine iw (i:=17) (N:=some 75) #[true,true,true,true,true,true,true,true,true,true,true,true,true,true,true,true,true,true,false,false,false,false] rfl rfl (by kernel_rfl) (by decide) (fun K hK=>?_);refine gW (w1:=?_) (v:=?_) (by rfl) rfl ?_ ?_;rotate_left 2
 ·go_simp
  constructor
  ·rfl
  ·rfl
 have E1:=hide (E0.out.trans ((au (Below.refl we.heap.size we) (.cells #[.int .i64 p,.int .i64 3,.int .i64 tp,.string name,.bool true] 37)).mono E0.out.size));refine hK.out _ _ ⟨(HS.out _ E1.out).1,(HS.out _ E1.out).2.1,(HS.out _ E1.out).2.2⟩ (fun hHeld=>?_);clear hK K;refine cK (a':=?_) ?_ ?_;rotate_left
 ·show Act.put _ (some 75) _=_
  simp only[Act.put,List.setIfInBounds_toArray,List.set_cons_zero,List.set_cons_succ,fU,fV];rfl
 refine eF (i:=18) (N:=some 76) #[true,true,true,true,true,true,true,true,true,true,true,true,true,true,true,true,true,true,true,false,false,false] rfl rfl (by kernel_rfl) (by decide) (fun K hK=>?_);refine Kd.cZ K5 (w0:=we) D (by rfl) (.tmp 62) (.tmp 75) 26 37 xH 48 rfl Tryz.underlying26 jZ rfl (by decide) (by omega) m.vu (_:List (List Value)) (bV.cs (⟨p,3,tp,name,true⟩:bV)) [.int .i64 p,.int .i64 3,.int .i64 tp,.string name,.bool true] (fun k=>D≤k) (fun _=>False) rfl rfl ⟨rfl,rfl,by simp[Value.oneCell']⟩ (fun _ hk=>hk.elim) (fun k hk=>Nat.le_trans HD.out (Nat.le_trans E0.out.size hk)) (Kd.bS HF.out.vu E0.out) (Below.refl _ _) (Nat.le_trans HD.out E0.out.size) (by rw[List.length_map];first|omega|(have:=Oc.out;omega)) ?_;intro v1 w6 h1 h2 h3 h4;obtain⟨A9,c9,rfl,-,-⟩:=Kd.bL h1;rw[List.length_append,List.length_map]at h1 h4;have F1:=hide h1;have F3:=hide h3;have F4:=hide h4;clear h1 h2 h3 h4;have f6:=aQ ((F3.out.block _ (Nat.lt_of_lt_of_le (ay HF.out.blk) E0.out.size) (fun e=>HF.out.qj.2.1 e.symm)).trans ((E0.out.block _ (ay HF.out.blk)).trans HF.out.blk)) 1;have e6:=(aj ((F3.out.block _ (Nat.lt_of_lt_of_le (ay HF.out.blk) E0.out.size) (fun e=>HF.out.qj.2.1 e.symm)).trans ((E0.out.block _ (ay HF.out.blk)).trans HF.out.blk)) 1).trans rfl;refine hK.out _ _ ?_;clear hK K;refine cK (a':=?_) ?_ ?_;rotate_left
 ·show Act.put _ (some 76) _=_
  simp only[Act.put,List.setIfInBounds_toArray,List.set_cons_zero,List.set_cons_succ,fU,fV];rfl
 refine pv 19 77 ?_;refine pv 20 78 ?_;refine eF (i:=21) (N:=none) #[true,true,true,true,true,true,true,true,true,true,true,true,true,true,true,true,true,true,true,true,true,true] rfl rfl (by kernel_rfl) (by decide) (fun K hK=>?_);refine gy (w1:=?_) (by rfl) rfl ?_ ?_;rotate_left
 ·go_simp
  rfl
 refine hK.out _ _ ?_;clear hK K;refine dP (by kernel_rfl) ?_;go_wp2;go_end0;exact⟨rfl,Rk.shift HB.out (Rk.wJ (t:=(⟨p,3,tp,name,true⟩:bV)) HF.out (Below.refl _ _) E0.out F3.out F1.out F4.out)⟩):p:=h
theorem aiH {p:Prop}(h:p:=by
 refine⟨?_⟩;refine abk.out.mono ?_;rintro e W8 ⟨rfl,sc,⟨m2,hf8,hu8⟩,hr8⟩;obtain⟨A8,c8,acV,hc8,-⟩:=Kd.bL hf8.vs;have hrow:m2.row.length=m.ms.length+1:=by unfold FM.row;rw[List.length_map,hu8.ms];simp
 rw[hrow]at acV hc8
 have hA8:∃ad,A8=some ad:=by
  have h1:=hf8.vs;rw[acV]at h1;have h2:=(Kd.gQ h1).2.2;exact kZ h2 (by rw[hrow];omega)
 obtain⟨ad,rfl⟩:=hA8;have HR8:=hide acV;have HF8:=hide hf8;have HU8:=hide hu8;have aqQ:=hide hr8
 have hs7:w.heap.size+3≤W7.heap.size:=by
  have:=Nl.out.size;have:=Nn.out.s;have h1:=ay Nn.out.s;have:=P_.out;have h2:=Nl.out.size;omega
 have hx8:W8.heap[w.heap.size]?=some (.cells #[.pointer (some ⟨m.g,0,none⟩)] 51 (0,0)):=by
  refine(hr8.block _ (ay Nn.out.f) (fun hk=>?_)).trans Nn.out.f;rcases VW.out _ hk with q|q|q
  ·have:=H.out.hi _ q;omega
  ·omega
  ·have:=E0.out.size;have:=P_.out;omega
 have hg8:W8.heap[m.g]?=some (.cells (m2.cells st2 ⟨en.fP++[sc],en.this,en.back⟩) 56 (0,0)):=by
  have:=hf8.blk;rw[hu8.g]at this;exact this
 have HX8:=hide hx8;have HG8:=hide hg8;have HSL:=hide (fun(W:World) (hb:Below W8.heap.size W8 W)=>show W.cell? ⟨w.heap.size,0,none⟩=some (.pointer (some ⟨m.g,0,none⟩))∧W.cell? ⟨m.g,4,none⟩=some (.slice (some ad) (m.ms.length+1) c8)from⟨(aj ((hb.block _ (ay HX8.out)).trans HX8.out) 0).trans rfl,((aj ((hb.block _ (ay HG8.out)).trans HG8.out) 4).trans rfl).trans (congrArg some HR8.out)⟩);obtain⟨n,hn⟩:∃n,m.ms.length=n:=⟨_,rfl⟩;have HN:=hide hn;rw[hn]at hc8 HR8 HSL hrow;have avN:n≤1099511627776:=by rw[←hn];exact hms
 clear hf8 hu8 hr8 hx8 hg8 acV d0 hn hms hrow hs7;go_wp2;have hwn:wrap64 (n:Int)=(n:Int):=by unfold wrap64;omega
 have hwl:(n:Int)<(n:Int)+1:=by omega
 have hnc:n≤c8:=by omega
 have hb0:Below W8.heap.size W8 W8.drew:=bq (Below.refl _ _);refine bX (n:=15) (S:=fun w'=>w'.cell? ⟨w.heap.size,0,none⟩=some (.pointer (some ⟨m.g,0,none⟩))∧w'.cell? ⟨m.g,4,none⟩=some (.slice (some ad) (n+1) c8)) (ds:=[14]) #[false,false,false,false,false,false,false,false,false,false,false,false,false,false,false] (by kernel_rfl) rfl rfl ⟨(HSL.out _ hb0).1,(HSL.out _ hb0).2⟩ (fun hHeld=>?_);obtain⟨wd,hwd⟩:∃wd,wd=W8.drew:=⟨_,rfl⟩;rw[←hwd]at hHeld⊢;have Q0:=hide (show Below W8.heap.size W8 wd by rw[hwd];exact hb0);clear hwd hb0;refine tv 0 19 hHeld ?_;refine tv 1 20 hHeld ?_;refine pv 2 21 ?_;refine pv 3 22 ?_;refine tv 4 23 hHeld ?_;refine tv 5 24 hHeld ?_;refine pv 6 25 ?_;refine pv 7 26 ?_;refine tv 8 27 hHeld ?_;refine pv 9 28 ?_;refine pv 10 29 ?_;refine pv 11 30 ?_;refine pv 12 31 ?_;refine pv 13 32 ?_;refine eF (i:=14) (N:=none) #[true,true,true,true,true,true,true,true,true,true,true,true,true,true,true] rfl rfl (by kernel_rfl) (by decide) (fun K hK=>?_);have e6:=(aj ((Q0.out.block _ (ay HG8.out)).trans HG8.out) 4).trans rfl;have f6:=aQ ((Q0.out.block _ (ay HG8.out)).trans HG8.out) 4;refine gy (w1:=?_) (by rfl) rfl ?_ ?_;rotate_left
 ·go_simp
  rfl
 clear e6 f6;refine hK.out _ _ ?_;clear hK K;refine dP (by kernel_rfl) ?_;clear hwn hwl hnc;go_wp2;go_end0;have hfd:=HF8.out.below Q0.out
 have Hl:K1.R 97 wd D (fun k=>D≤k) (.slice (some ad) n c8) (m.ms.map (fun b=>[Value.map (some b)])):=by
  have h1:=hfd.vs;rw[HR8.out]at h1;have h2:=Kd.TY h1 (m:=n) (by have:=HU8.out.ms;have:=HN.out;unfold FM.row;simp_all)
  have e:m2.row.take n=m.ms.map (fun b=>[Value.map (some b)]):=by
   unfold FM.row;rw[HU8.out.ms];simp only[List.map_append];rw[List.take_append_of_le_length (by simp[HN.out]),List.take_of_length_le (by simp[HN.out])]
  rw[e]at h2;exact h2
 have hcl:=hfd.closed (v1:= .slice (some ad) n c8) HU8.out.ms (by rw[HR8.out];rfl) Hl;rw[HU8.out.g]at hcl;refine⟨rfl,⟨_,hcl,?_⟩,?_⟩
 ·have hu:=HU8.out
  have acv:w.heap.size≤W7.heap.size:=Nl.out.size;refine⟨rfl,hu.mt,hu.mg,hu.vl,rfl,?_,?_⟩
  ·rcases hu.vu with q|⟨b,q,hb⟩
   ·exact .inl q
   ·exact .inr ⟨b,q,by omega⟩
  ·have e1:(Value.slice (some ad) n c8).ownBlock=m2.vs.ownBlock:=by rw[HR8.out];rfl
   have h1:OwnAt w m.vs v1:=HV.out.imp id (fun⟨b,q,hb⟩=>⟨b,q,by have:=E0.out.size;have:=P_.out;omega⟩);have h2:=h1.trans hu.vs acv;rcases h2 with q|⟨b,q,hb⟩
   ·exact .inl (e1.trans q)
   ·exact .inr ⟨b,e1.trans q,hb⟩
 ·refine Fr.setCell (p:=⟨m.g,4,none⟩) ?_ (.inl (.inl rfl)) _
  refine Fr.more ?_ Q0.out
  exact Nl.out.trans aqQ.out (fun k hk=>by
   rcases VW.out k hk with q|q|q
   ·exact .inl q
   ·exact .inr (by omega)
   ·exact .inr (by have:=E0.out.size;have:=P_.out;omega))):p:=h
theorem sU {p:Prop}(h:p:=by exact⟨by first|rfl|(simp;done)|(simp[*];done),by repeat (first|exact bU.refl _|apply bU.step)⟩):p:=h
theorem V9 {p:Prop}(h:p:=by
 have Ci:0≤(jJ:Int):=of_decide_eq_true (by first|(with_reducible assumption)|assumption);have Cj:jJ<(iD.length:Int):=of_decide_eq_true (by first|(with_reducible assumption)|assumption);obtain⟨adA,e167,Qg⟩:=Kd.mO (Kd.gQ oQ.out).2.2 jJ Ci Cj
 cases e167
 replace Ci:=eq_true Ci
 replace Cj:=eq_true Cj
 go_wp2_with (first|((with_reducible refine dM (f:=52) rfl ?_);refine jN (some 41) rfl rfl Tryz.func52 (by kernel_rfl) rfl #[.string (iq ByteArray.empty iD jJ)] rfl (by(try simp only[List.map_toArray,List.map_cons,List.map_nil]);first|done|rfl|(simp only[List.length_drop,List.length_take];rfl)) ?_;(with_reducible refine(av.calls k2 (iq ByteArray.empty iD jJ) t168 jB _ A17.out).mono ?_);rintro e w' ⟨rfl,⟨nd,rfl⟩⟩;refine⟨_,rfl,?_⟩)|((with_reducible refine dM (f:=53) rfl ?_);refine jN (some 45) rfl rfl Tryz.func53 (by kernel_rfl) rfl #[.int .i64 jB] rfl (by(try simp only[List.map_toArray,List.map_cons,List.map_nil]);first|done|rfl|(simp only[List.length_drop,List.length_take];rfl)) ?_;(with_reducible refine(aJ.calls k2 jB false _ A18.out).mono ?_);rintro e w' ⟨rfl,⟨nd,rfl⟩⟩;refine⟨_,rfl,?_⟩));go_roundg k2
 case measure=>have:=HJ2.out;have:=HK2.out;omega
 case rel=>exact⟨(wrap64 (jJ+1)),(by first|rfl|(simp;done)|(simp[*];done)),H',⟨by have:=HJ2.out;have:=HK2.out;omega⟩,⟨by(with_reducible repeat (first|apply Kd.iU|apply Kd.jq|apply Kd.kY));exact oQ.out⟩,⟨by repeat (first|(with_reducible first|exact HB.out|apply au|apply dJ|apply gZ)|exact HB.out)⟩⟩):p:=h
theorem adH {p:Prop}(h:p:=by
 go_wp2_with (go_at_call 123;refine Aside0.out ?_);refine⟨?_⟩;obtain⟨wb,hwb⟩:∃wb,wr.alloc (.cells #[.int .i64 y.f0,.string y.f1,.int .i64 y.f2,.slice A' y.f3.length c'] 24)=wb:=⟨_,rfl⟩;rw[hwb];have hbb:Below wr.heap.size wr wb:=hwb▸au (Below.refl _ _) _;have hxb:wb.heap[wr.heap.size]?=some (.cells #[.int .i64 y.f0,.string y.f1,.int .i64 y.f2,.slice A' y.f3.length c'] 24 (0,0)):=hwb▸aR wr _;have GJ:=Q.out.below hbb
 have hsc:(gq (st,[]) (pos+1) (x.f3.take i)).2.length≤1099511627776:=by
  have h1:=Ay (x.f3.take i) (st,[]) (pos+1);simp only[List.length_take,List.length_nil]at h1;have h2:=HN.out;omega
 refine(uM (sc:=(gq (st,[]) (pos+1) (x.f3.take i)).2) GJ.fin (ms0:=m.ms) Vt.out GJ.bx y A' c' p false (HF.out.kid (bZ iH.out)).str hsc).mono ?_;rintro e w2 ⟨rfl,Cn,hfr2⟩;have hx2:=(hfr2.block _ (ay hxb) (by rintro(e|e);have:=Q.out.fin.hi _ (.inl rfl);omega;have:=Q.out.fin.hi b (.inr (.inr (.inr (.inr (.inr (.inr HBM.out))))));omega)).trans hxb
 have hq2:DI D en m1 b bs bf ba bn bg pos x (some eB) c W (decP (gq (st,[]) (pos+1) (x.f3.take i)) y p false) (pos+1+(aM (x.f3.take i)).length) p w2:=
  ⟨Cn,(Q.out.fr.more hbb).trans hfr2 (fun k hk=> .inl hk),GJ.bx.fr hfr2 (by rintro(e|e);exact HNS.out.1 e;exact HNS.out.2 e) (by rintro(e|e);exact HNF.out.1 e;exact HNF.out.2 e),GJ.b3.fr hfr2 (by rintro(e|e);exact HNA.out.1 e;exact HNA.out.2.1 e) (by rintro(e|e);exact J4.out.1 e;exact J4.out.2.1 e) (by rintro(e|e);exact HNG.out.1 e;exact HNG.out.2.1 e),GJ.p⟩
 have hb2:Below D w0 w2:=sV.out.trans (hq2.fr.below Af.out (by rintro k (rfl|rfl);exact tF.out _ (.inl rfl);exact tF.out _ (.inr (.inr (.inr (.inr (.inr (.inr HBM.out))))))));obtain⟨s,hs⟩:∃s,sz y=s:=⟨_,rfl⟩;have hpp:=hq2.p;have hlen1:=HLEN.out;have hs0:0≤s∧s≤(flat y).length:=by rw[←hs];unfold sz;omega
 have hws:wrap64 (p+s)=p+s:=by unfold wrap64;omega
 have lW:=hide (qQ y (HF.out.kid (bZ iH.out)) (by omega) A' c' w2 (kC.out.kids w2 (fun k hk _=>hb2.block k hk)) kC.out.cap);rw[hs]at lW
 have QN:=hide (show∀w3,Below w2.heap.size w2 w3→DI D en m1 b bs bf ba bn bg pos x (some eB) c W (gq (st,[]) (pos+1) (x.f3.take (i+1))) (pos+1+(aM (x.f3.take (i+1))).length) (p+s) w3 from fun w3 h3=>by
  have hq3:=hq2.below h3
  have e1:gq (st,[]) (pos+1) (x.f3.take (i+1))=decP (gq (st,[]) (pos+1) (x.f3.take i)) y p false:=by
   rw[bJ iH.out,xG,←hpp,if_pos (af2.out.2 rfl),adG.out];try rfl
  rw[e1];exact⟨hq3.fin,hq3.fr,hq3.bx,hq3.b3,by rw[bJ iH.out,gU,hs,hpp];omega⟩)
 have d0:w2.cell? ⟨wr.heap.size,0,none⟩=some (.int .i64 y.f0):=(aj hx2 0).trans rfl;have d1:w2.cell? ⟨wr.heap.size,1,none⟩=some (.string y.f1):=(aj hx2 1).trans rfl;have d2:w2.cell? ⟨wr.heap.size,2,none⟩=some (.int .i64 y.f2):=(aj hx2 2).trans rfl;have d3:w2.cell? ⟨wr.heap.size,3,none⟩=some (.slice A' y.f3.length c'):=(aj hx2 3).trans rfl;clear Cn hfr2 GJ hsc hq2 hx2 hb2 hs hpp hlen1 hs0 zR hwb hbb hxb k0 k1 k2 k3;unfold nd at lW;go_wp2_with (go_at_call 20;refine lW.out.mono ?_;rintro e w3 ⟨rfl,h3⟩;have Q2:=hide (QN.out w3 h3);clear h3);go_roundg (n-i)
 case measure=>omega
 case rel=>exact⟨i+1,p+s,by omega,by omega,by go_num,by rw[hws],Q2⟩):p:=h
theorem adr {p:Prop}(h:p:=by
 rw[hw];rw[hw]at hB hF;have F6:=hide hF;have B6:=hide hB;clear hB hF hw;have K6:=hide (K0.out.one F6.out B6.out);refine hK.out _ _ ⟨(Ac.out _ (K6.out.keep tC.out.2 (.inr tC.out.1)) (K6.out.keep (ay pq.out.b0) (.inl (Nat.le_refl _)))).1,(Ac.out _ (K6.out.keep tC.out.2 (.inr tC.out.1)) (K6.out.keep (ay pq.out.b0) (.inl (Nat.le_refl _)))).2.1,(Ac.out _ (K6.out.keep tC.out.2 (.inr tC.out.1)) (K6.out.keep (ay pq.out.b0) (.inl (Nat.le_refl _)))).2.2⟩ (fun hHeld=>?_);clear hK K;refine iw (i:=9) (N:=none) #[true,true,true,true,true,true,true,true,true,true,false] rfl rfl (by kernel_rfl) (by decide) (fun K hK=>?_);have p0:=(aj (K6.out.b2) 0).trans rfl;have r0:=aQ (K6.out.b2) 0;have hB:=bT (cs':=#[.bool true]) (K6.out.b2) 0 (.bool true) rfl;have hF:=Fr.setCell (p:=⟨w.heap.size+1+1,0,none⟩) (Fr.refl (fun k=>k=w.heap.size+1+1) w6) (.inl rfl) (.bool true);refine gy (w1:=?_) (by rfl) rfl ?_ ?_;rotate_left
 ·go_simp
  rfl
 clear p0 r0;obtain⟨w7,hw⟩:∃x,w6.setCell ⟨w.heap.size+1+1,0,none⟩ (.bool true)=x:=⟨_,rfl⟩;rw[hw];rw[hw]at hB hF;have F7:=hide hF;have B7:=hide hB;clear hB hF hw;have K7:=hide (K6.out.two F7.out B7.out);refine hK.out _ _ ⟨(Ac.out _ (K7.out.keep tC.out.2 (.inr tC.out.1)) (K7.out.keep (ay pq.out.b0) (.inl (Nat.le_refl _)))).1,(Ac.out _ (K7.out.keep tC.out.2 (.inr tC.out.1)) (K7.out.keep (ay pq.out.b0) (.inl (Nat.le_refl _)))).2.1,(Ac.out _ (K7.out.keep tC.out.2 (.inr tC.out.1)) (K7.out.keep (ay pq.out.b0) (.inl (Nat.le_refl _)))).2.2⟩ (fun hHeld=>?_);clear hK K;refine eF (i:=10) (N:=none) #[true,true,true,true,true,true,true,true,true,true,true] rfl rfl (by kernel_rfl) (by decide) (fun K hK=>?_);have p0:=(aj (K7.out.b3) 0).trans rfl;have r0:=aQ (K7.out.b3) 0;have hB:=bT (cs':=#[.bool (!tc)]) (K7.out.b3) 0 (.bool (!tc)) rfl;have hF:=Fr.setCell (p:=⟨w.heap.size+1+1+1,0,none⟩) (Fr.refl (fun k=>k=w.heap.size+1+1+1) w7) (.inl rfl) (.bool (!tc));refine gy (w1:=?_) (by rfl) rfl ?_ ?_;rotate_left
 ·go_simp
  rfl
 clear p0 r0;obtain⟨w8,hw⟩:∃x,w7.setCell ⟨w.heap.size+1+1+1,0,none⟩ (.bool (!tc))=x:=⟨_,rfl⟩;rw[hw];rw[hw]at hB hF;have F8:=hide hF;have B8:=hide hB;clear hB hF hw;have K8:=hide (K7.out.three F8.out B8.out);refine hK.out _ _ ?_;clear hK K;refine dP (by kernel_rfl) ?_;refine⟨rfl,(),?_,K8.out⟩;simp only[mP,List.foldl_cons,List.foldl_nil,List.setIfInBounds_toArray,List.set_cons_zero,List.set_cons_succ]):p:=h
theorem ac9 {p:Prop}(h:p:=by
 have hent:∀(args:Array Value) (w:World),(callFunc K args).run Tryz.prog w= .ok (.enter K args) w:=he;have HT:=hide hT;have HTAB:=hide ht;have Q0:=hide (show AQ w l A l.length P 0 w from⟨h,Below.refl _ _,by simp⟩);obtain⟨n,hn⟩:∃n,l.length=n:=⟨_,rfl⟩;have HN:=hide hn;rw[hn]at hl Q0⊢;clear hT h hn he ht;go_enter Tryz.func28,Tryz.ntmps28;go_wp2;go_loopg [9] (n+1) (fun gk v9 wr=>∃i:Nat,i≤n∧n-i<gk∧v9= .int .i64 i∧Aside0 (AQ w l A n P i wr))
 case atStart=>exact⟨0,Nat.zero_le _,by omega,rfl,Q0⟩
 case round=>
  obtain⟨i,hi,lS,rfl,Q⟩:=hrel;clear Q0;by_cases hlt:i<n
  ·have eY:(i:Int)<(n:Int):=by omega
   obtain⟨x,hx⟩:=eO (l:=l) (i:=i) (by rw[HN.out];exact hlt);obtain⟨ad,A',c',rfl,hrx,k0,k1,k2,k3⟩:=jO Q.out.r1 (HTAB.out.below Q.out.below) hx;have HX:=hide hx;have HRX:=hide hrx;have HB1:=hide (au (Below.refl wr.heap.size wr) (.cells #[.int .i64 x.f0,.string x.f1,.int .i64 x.f2,.slice A' x.f3.length c'] 24));clear hx hrx
   cases hP:P x with
   |true=>
    have HPX:=hide hP;clear hP;go_wp2_with ((with_reducible refine rM ?_);refine(HT.out x (List.mem_of_getElem? HX.out) A' c' _ (Q.out.below.trans (HB1.out.mono Q.out.below.size)) (HRX.out.below HB1.out)).mono ?_;rintro e w2 ⟨rfl,h2⟩;rw[HPX.out];have HB2:=hide (HB1.out.trans (h2.mono (by simp)));clear h2);go_roundg (n-i)
    case measure=>omega
    case rel=>exact⟨i+1,by omega,by omega,by go_num,⟨⟨kL Q.out.r1 HB2.out,Q.out.below.trans (HB2.out.mono Q.out.below.size),by rw[Q.out.eq,l6 HX.out,HPX.out];rfl⟩⟩⟩
   |false=>
    have HPX:=hide hP;clear hP;go_wp2_with ((with_reducible refine rM ?_);refine(HT.out x (List.mem_of_getElem? HX.out) A' c' _ (Q.out.below.trans (HB1.out.mono Q.out.below.size)) (HRX.out.below HB1.out)).mono ?_;rintro e w2 ⟨rfl,h2⟩;rw[HPX.out];have HB2:=hide (HB1.out.trans (h2.mono (by simp)));clear h2);go_ret;exact⟨aI (by rw[Q.out.eq,l6 HX.out,HPX.out];rfl),Q.out.below.trans (HB2.out.mono Q.out.below.size)⟩
  ·obtain rfl:i=n:=by omega
   go_wp2;go_ret;exact⟨aI (by rw[Q.out.eq,List.drop_eq_nil_of_le (by rw[HN.out];exact Nat.le_refl _)];rfl),Q.out.below⟩):p:=h
theorem aeh {p:Prop}(h:p:=by
 have h1:((yl.length:Int) != 1)=true:=by simp;omega
 have vU:=hide (hPy false (by rw[vZ];exact uh (by simpa using fun e=>hone e.symm)));obtain⟨jd,fA⟩:∃z,yl.length=z:=⟨_,rfl⟩;rw[fA]at k3 h1 HK;have pV:=hide (fun W (h:Below (wr.heap.size+1) (wr.alloc (.cells #[.int .i64 yk,.string ys,.int .i64 yn,.slice A' jd c'] 24)) W)=>fF yk ys yn A' jd c' wr W h);have o9:=hide (au (Below.refl wr.heap.size wr) (.cells #[.int .i64 yk,.string ys,.int .i64 yn,.slice A' jd c'] 24));have iI:=hide (fun W (h:Below wr.heap.size wr W)=>And.intro (ak h HK.out.1) (And.intro (ak h HK.out.2.1) (And.intro (ak h HK.out.2.2.1) (ak h HK.out.2.2.2))));clear hy dR iO hPy hone fA g_ hzi Cg El Ah;go_wp2_with (go_at_call 13;refine(qK.out _).mono ?_;rintro e w2 ⟨rfl,h2⟩;have HD2:=hide (show Below (wr.heap.size+1) _ w2 from h2.mono (by simp));have HB2:=hide (o9.out.trans (HD2.out.mono (by omega)));obtain⟨y20,y21,y22,y23⟩:=pV.out _ HD2.out;clear h2)
 all_goals
  go_ret
  first|(refine⟨aI ?_,J.out.b0.trans (HB2.out.mono J.out.b0.size)⟩;rw[sO.out ?_];(try rfl);rw[vU.out];simp[*];done)|(refine⟨aI ?_,J.out.b0.trans (o9.out.mono J.out.b0.size)⟩;rw[sO.out ?_];(try rfl);rw[vU.out];simp[*];done)):p:=h
theorem Lr {p:Prop}(h:p:=by
 clear hf hb hr h hbd hlc hb1 hx1 hf1 hl1 hno hlen hpos hfe hrs hwk;go_enter Tryz.func23,Tryz.ntmps23;go_wp2_with (go_at_call 48;refine HV.out.mono ?_;rintro e w2 ⟨rfl,hq⟩;have HQ:=hide hq;clear hq);go_end0;rw[←jo.out];exact⟨rfl,Rk.shift HB1.out HQ.out⟩):p:=h
theorem adg {p:Prop}(h:p:=by
 clear hstar Aa hok1 hq iO;go_wp2_with (first|(go_at_call 55;refine lq.out.mono ?_;rintro e w2 ⟨rfl,h2⟩;obtain⟨c20,c21,tH,c23,hb⟩:=ji h2;have HB2:=hide hb;clear h2 hb)|(go_at_call 66;refine(qK.out _ HB2.out).mono ?_;rintro e w3 ⟨rfl,h3⟩;have HB3:=hide (HB2.out.trans (h3.mono HB2.out.size));clear h3))
 all_goals try (go_ret;first|exact⟨aI (HST.out (by rw[HFS.out,iy.out];simp[*])).symm,Q.out.1.below.trans (HB3.out.mono Q.out.1.below.size)⟩|exact⟨aI (HST.out (by rw[HFS.out,iy.out];simp[*])).symm,Q.out.1.below.trans (HB2.out.mono Q.out.1.below.size)⟩|exact⟨aI (HST.out (by rw[HFS.out,iy.out];simp[*])).symm,Q.out.1.below.trans (HB.out.mono Q.out.1.below.size)⟩)
 all_goals
  have Q2:=hide (And.intro (jL.out _ (by rw[HFS.out,iy.out];simp[*]) HB3.out) (Q.out.2.trans (HB3.out.mono Q.out.2.size)));go_roundg (len-i)
  case measure=>omega
  case rel=>exact⟨i+1,by omega,by omega,by go_num,Q2⟩):p:=h
theorem KM {p:Prop}(h:p:=by
 clear hf hb hr h hbd hlc hb1 hx1 hf1 hl1 hno hlen hpos hfe;go_enter Tryz.func19,Tryz.ntmps19;go_wp2_with (go_at_call 37;refine HV.out.mono ?_;rintro e w2 ⟨rfl,hq⟩;have HQ:=hide hq;clear hq);go_end0;exact⟨rfl,Dc.shift HB1.out (Dc.NG HQ.out)⟩):p:=h
theorem ac' {p:Prop}(h:p:=by
 clear HTG
 cases hP:P y with
 |true=>
  have HPX:=hide hP;clear hP;go_wp2_with ((with_reducible refine rM ?_);refine(Md.out A' c' _ Q.out.below kC.out).mono ?_;rintro e w2 ⟨rfl,h2⟩;rw[HPX.out];have Q2:=hide (Q.out.next HF.out HY.out HPX.out h2);clear h2);go_roundg (n-i)
  case measure=>omega
  case rel=>exact⟨i+1,by omega,by omega,by go_num,Q2⟩
 |false=>
  have HPX:=hide hP;clear hP;go_wp2_with ((with_reducible refine rM ?_);refine(Md.out A' c' _ Q.out.below kC.out).mono ?_;rintro e w2 ⟨rfl,h2⟩;rw[HPX.out];have HB2:=hide (Q.out.below.trans (h2.mono Q.out.below.size));clear h2);go_ret;exact⟨aI (by rw[Q.out.eq,D8 (P:=P) (by rw[List.getElem?_map,HF.out];rfl) HY.out,HPX.out];rfl),HB2.out⟩):p:=h
theorem ad_ {p:Prop}(h:p:=by
 clear hpl;unfold nd at hcall;simp only at hcall;rw[hlen]at hcall;have HC:=hide hcall;clear hf ha hk hw hb hr h hbd hlc hb1 hx1 hf1 hl1 hno fD hlen hpos hcall hlo hlo2 hrs hwk;go_enter Tryz.func50,Tryz.ntmps50;go_wp2_with (go_at_call 102;refine HC.out.mono ?_;rintro e w3 ⟨rfl,hq⟩;have Jt:=hide hq;clear hq);go_end0;rw[←jo.out];exact⟨rfl,Rk.shift HB1.out Jt.out⟩):p:=h
theorem QS {p:Prop}(h:p:=by
 go_wp2_with (go_at_call 45;refine HY.out.mono ?_;rintro e w2 ⟨rfl,h2⟩;have HB2:=hide (J.out.b0.trans (h2.mono J.out.b0.size));clear h2);go_ret;exact⟨aI (by rw[fH.out,show gM l=gM (l.drop i)from J.out.eq,HE.out];simp),HB2.out⟩):p:=h
theorem YR {p:Prop}(h:p:=by
 go_wp2_with (go_at_call 12;refine lW.out.mono ?_;rintro e w3 ⟨rfl,h3⟩;have Q2:=hide (QN.out w3 h3);clear h3);go_roundg (len-i)
 case measure=>omega
 case rel=>exact⟨i+1,p+q,by omega,by omega,by go_num,by rw[hws],Q2⟩):p:=h
theorem QG {p:Prop}(h:p:=by
 refine(h2.block _ (by simp)).trans ?_;have:=aR (w.alloc (.cells #[.int .i64 x.f0,.string x.f1,.int .i64 x.f2,.slice A n c] 24)) (.cells #[.slice none 0 0,.slice none 0 0] 28);simp only[World.size_alloc]at this;exact this):p:=h
theorem mH {p:Prop}(h:p:=by
 go_enter Tryz.func40,Tryz.ntmps40;exact rsc):p:=h
theorem Ll {p:Prop}(h:p:=by
 go_wp2_with (go_at_call 24;refine HC.out.mono ?_;rintro e w9 ⟨rfl,hq⟩;have HQ9:=hide hq;clear hq);go_end0;rw[←jo.out];exact⟨rfl,HQ9.out⟩):p:=h
theorem zW {p:Prop}(h:p:=by
 rintro w' ⟨s0,s1,s2,s3,s4,s5,s6,s7,s8,s9,s10,s11⟩;go_simp;with_reducible rfl):p:=h
theorem Kj {p:Prop}(h:p:=by
 show Act.put _ (some 62) _=_;simp only[Act.put,List.setIfInBounds_toArray,List.set_cons_zero,List.set_cons_succ,fU,fV];rfl):p:=h
theorem Kg {p:Prop}(h:p:=by rw[List.map_append];exact bW rfl hl (fun k q=>Below.heap_setCell _ _ _ _ (fun e=>hne1 ((show k=m.g from e)▸q)))):p:=h
theorem aed {p:Prop}(h:p:=by
 obtain rfl:i=len:=by omega
 obtain⟨c10,c11,c12,c13⟩:=dI.out _ J.out.2;have hall:l.all P=true:=by rw[J.out.1.eq,List.drop_eq_nil_of_le (by rw[HL.out];exact Nat.le_refl _)];rfl
 have wG:=hide hall;clear hall;go_wp2_with (go_at_call 44;refine(bD _ _ _ _ _ _ _).mono ?_;rintro e w2 ⟨rfl,h2⟩;have HB2:=hide (J.out.1.below.trans (h2.mono J.out.1.below.size));clear h2);go_ret;exact⟨aI (by rw[wG.out];simp),HB2.out⟩):p:=h
theorem Qk {p:Prop}(h:p:=by
 go_wp2_with (go_at_call 21;refine HC.out.mono ?_;rintro e w9 ⟨rfl,hq⟩;have Jt:=hide hq;clear hq);go_end0;rw[←jo.out];exact⟨rfl,Jt.out⟩):p:=h
theorem adC {p:Prop}(h:p:=by
 go_wp2;go_roundg k1
 case measure=>have:=JJ.out;omega
 case rel=>exact⟨(wrap64 (dZ+1)),(by first|rfl|(simp;done)|(simp[*];done)),H',⟨by have:=JJ.out;omega⟩,⟨by(with_reducible repeat (first|apply Kd.iU|apply Kd.jq|apply Kd.kY));exact oQ.out⟩,⟨by repeat (first|(with_reducible first|exact HB.out|apply au|apply dJ|apply gZ)|exact HB.out)⟩⟩):p:=h
theorem pU {p:Prop}(h:p:=by
 go_enter Tryz.func42,Tryz.ntmps42;exact rsc):p:=h
theorem YZ {p:Prop}(h:p:=by
 have hd:decodeN n b0 b1 b2 b3=(65533,1):=by unfold decodeN;rw[if_neg c1,if_neg (by omega),if_neg (by omega),if_neg (by omega)]
 rw[hd,bad]
 repeat' split
 all_goals first|rfl|(exfalso;omega)):p:=h
theorem sG {p:Prop}(h:p:=by
 go_enter Tryz.func35,Tryz.ntmps35;exact Di):p:=h
theorem aeu {p:Prop}(h:p:=by
 go_enter Tryz.func43,Tryz.ntmps43;go_wp2_with (first|(go_at_call 44;(with_reducible refine(Hp.out _ HB0.out).mono ?_);rintro e w1 ⟨rfl,h1⟩;obtain⟨c10,c11,c12,c13,hb⟩:=ji h1;have HB1:=hide hb;clear hb;clear h1))
 all_goals
  go_ret
  first|exact⟨aI (by simp[*]),HB1.out⟩|exact⟨aI (by simp[*]),HB0.out⟩):p:=h
theorem adQ {p:Prop}(h:p:=by
 clear hy dR hcells hbw hf1 hu1 hgr hg1 hg2 hfl hle hnb htk hyk hrt hcell2 Ju g_ hym hyn;go_wp2_with (go_at_call 38;refine(HT.out _).mono ?_;rintro e w2 ⟨rfl,hq1,hq2⟩;have Q2:=hide (QN.out _ w2 (Dc.AA hq1 hq2));clear hq1 hq2);go_roundg (len-i)
 case measure=>omega
 case rel=>exact⟨i+1,by omega,by omega,by go_num,Q2⟩):p:=h
theorem Qm {p:Prop}(h:p:=by
 rw[←lU,←lV];simp only[Bool.or_eq_true,Bool.or_eq_false_iff,beq_iff_eq,beq_eq_false_iff_ne];omega):p:=h
theorem adi {p:Prop}(h:p:=by
 go_wp2_with (go_at_call 107;refine(HV.out _ HB0.out).mono ?_;rintro e w1 ⟨rfl,h1⟩;obtain⟨c10,c11,c12,c13,hb⟩:=ji h1;have HB1:=hide hb;clear h1 hb)
 all_goals first|(go_ret;first|exact⟨rfl,HB1.out⟩|exact⟨rfl,HB0.out⟩)|(exfalso;have h:=HBAD.out;simp_all)):p:=h
theorem aen {p:Prop}(h:p:=by
 go_wp2_with (go_at_call 85;refine(HV.out _).mono ?_;rintro e w1 ⟨rfl,h1⟩;obtain⟨c10,c11,c12,c13,hb⟩:=ji h1;have HB1:=hide hb;clear h1 hb)
 all_goals first|(go_ret;first|exact⟨rfl,HB1.out⟩|exact⟨rfl,HB0.out⟩)|(exfalso;have h:=HBAD.out;simp_all)):p:=h
theorem aev {p:Prop}(h:p:=by
 go_wp2_with (go_at_call 13;refine(HP.out _).mono ?_;rintro e w1 ⟨rfl,h1⟩;obtain⟨c10,c11,c12,c13,hb⟩:=ji h1;have HB1:=hide hb;clear h1 hb)
 all_goals first|(go_ret;first|exact⟨rfl,HB1.out⟩|exact⟨rfl,HB0.out⟩)|(exfalso;have h:=HBAD.out;simp_all)):p:=h
theorem Qj {p:Prop}(h:p:=by
 go_end0;exact⟨rfl,Wk.trans (FM.Up.refl _ _) (Fr.of_below HB1.out) Jt.out⟩):p:=h
theorem Qx {p:Prop}(h:p:=by exact absurd h0 (by unfold PS.fail at h0⊢;split<;>simp_all)):p:=h
theorem xq {p:Prop}(h:p:=by
 go_enter Tryz.func32,Tryz.ntmps32;exact Di):p:=h
theorem ZY {p:Prop}(h:p:=by
 show Act.put _ (some 64) _=_;simp only[Act.put,List.setIfInBounds_toArray,List.set_cons_zero,List.set_cons_succ,fU,fV];rfl):p:=h
theorem ad7 {p:Prop}(h:p:=by
 obtain⟨At,ct,rfl,h1,h2⟩:=Kd.bL h.tv;obtain⟨Au,cu,rfl,h3,h4⟩:=Kd.bL h.uv;rw[List.length_map]at h2 h4;exact⟨At,ct,Au,cu,by rw[List.length_map],by rw[List.length_map],fun W hW=>⟨kL h2 hW,kL h4 hW⟩⟩):p:=h
theorem zO {p:Prop}(h:p:=by
 go_enter Tryz.func73,Tryz.ntmps73;exact Di):p:=h
theorem aew {p:Prop}(h:p:=by
 obtain rfl:i=len:=by omega
 have QM:=hide (show l.all P=true from by rw[J.out.eq,List.drop_eq_nil_of_le (by rw[HL.out];exact Nat.le_refl _)];rfl);go_wp2;go_ret;exact⟨fq (by rw[←fH.out,QM.out];rfl),J.out.b0⟩):p:=h
theorem adb {p:Prop}(h:p:=by
 go_enter Tryz.func33,Tryz.ntmps33;go_wp2_with (go_at_call 54;refine(FE.out _ HB0.out).mono ?_;rintro e w1 ⟨rfl,h1⟩;obtain⟨c10,c11,c12,c13,hb⟩:=ji h1;have HB1:=hide hb;clear h1 hb);go_ret;exact⟨rfl,HB1.out⟩):p:=h
theorem UH {p:Prop}(h:p:=by
 rintro e w' ⟨v,rfl,h1,h2⟩;obtain⟨A,c,rfl,h3,h4⟩:=Kd.bL h1;exact⟨A,c,rfl,h3,h4,h2⟩):p:=h
theorem adE {p:Prop}(h:p:=by
 obtain rfl:i=n:=by omega
 go_wp2;go_end0;refine⟨rfl,?_⟩;have hq:=Q.out.q;rw[List.take_of_length_le (by rw[HN.out];exact Nat.le_refl _)]at hq;exact Wk.trans (FM.Up.refl _ _) (Fr.of_below HW1.out) hq):p:=h
theorem BI {p:Prop}(h:p:=by
 go_enter Tryz.func29,Tryz.ntmps29;exact Di):p:=h
theorem aec {p:Prop}(h:p:=by
 refine j_ (Ev.step (f:=fun _=>some (acc,ok)) (fun k=>?_) (Ev.now _)) ?_
 ·simp only[aU.l0];rw[if_pos (by rw[ByteArray.toList_eq];exact e)]
 ·rw[e,AP,validD_nil];simp):p:=h
theorem ad9 {p:Prop}(h:p:=by
 go_wp2;go_end0;rw[←jo.out]
 first|exact⟨rfl,Rk.shift HB1.out (Rk.of_below gK.out (Below.refl _ _))⟩|exact⟨trivial,Rk.shift HB1.out (Rk.of_below gK.out (Below.refl _ _))⟩):p:=h
theorem adq {p:Prop}(h:p:=by
 ((try simp only[Exit.inBlock,Exit.then]);refine bodyPost_ret (results_none rfl _ _ _) rfl ?_)
 exact⟨rfl,zP.out.1,(Fr.alloc (Fr.refl _ w) _).trans zP.out.2 (fun k hk=> .inl hk)⟩):p:=h
theorem EF {p:Prop}(h:p:=by
 go_enter Tryz.func41,Tryz.ntmps41;exact rsc):p:=h
theorem aem {p:Prop}(h:p:=by
 go_wp2
 all_goals (go_ret;(refine⟨aI ?_,J.out.b0.trans (o9.out.mono J.out.b0.size)⟩;rw[sO.out ?_];(try rfl);rw[iy.out];simp[*];done))):p:=h
theorem aeB {p:Prop}(h:p:=by
 rintro e w' ⟨v,rfl,h1,h2⟩;obtain⟨A,c,rfl,hc,hC⟩:=Kd.bL h1;exact⟨A,c,rfl,Kd.mM (Kd.Aj h1) (fun k hk=>hk.2.1),h2⟩):p:=h
theorem adn {p:Prop}(h:p:=by
 split
 ·exact(Gr.fail _ _ _ (by decide)).mono (by omega)
 ·split
  ·exact(Gr.fail _ _ _ (by decide)).mono (by omega)
  ·exact Gr.use _ _):p:=h
theorem J3 {p:Prop}(h:p:=by
 go_enter Tryz.func36,Tryz.ntmps36;exact Di):p:=h
theorem adk {p:Prop}(h:p:=by
 split at h;·simp;omega
 split at h;·simp;omega
 split at h;·simp;omega
 split at h;·simp;omega
 split at h;·simp;omega
 cases h):p:=h
theorem QK {p:Prop}(h:p:=by exact absurd (by rw[←hd];exact⟨rfl,rfl⟩) hb):p:=h
theorem JX {p:Prop}(h:p:=by rw[List.drop_eq_nil_of_le (by omega)];rfl):p:=h
theorem ad5 {p:Prop}(h:p:=by
 rintro e w' ⟨v,rfl,h1,h2⟩;obtain⟨A,c,rfl,hc,hC⟩:=Kd.bL h1;exact⟨A,c,rfl,⟨hC,hc,ht.below h2⟩,h2⟩):p:=h
theorem aex {p:Prop}(h:p:=by
 obtain⟨m2,h2,hu2⟩:=h.fin;exact⟨⟨m2,h2,hu.trans hu2 hf.size⟩,hf.trans h.fr (fun k hk=>hu.own k hk)⟩):p:=h
theorem adw {p:Prop}(h:p:=by exact Ev.bind (ih y (by have:=fJ (bZ hy);omega) (hf.kid (bZ hy))) (ihd (i+1) (by omega) (by omega) _)):p:=h
theorem adD {p:Prop}(h:p:=by obtain⟨cs,q⟩:=Kd.dO h.vu _ e;rw[hb]at q;cases q):p:=h
theorem Vh {p:Prop}(h:p:=by
 rw[List.getElem?_append_left hlt]at hj;rw[List.getElem?_append_left (by rw[h.len];exact hlt)];exact h.get j y hj):p:=h
theorem ac_ {p:Prop}(h:p:=by exact h.put h2 (fun k hk _=>(Below.heap_setCell _ _ _ _ hk).trans (Below.heap_setCell _ _ _ _ hk)) rfl rfl rfl rfl):p:=h
theorem adI {p:Prop}(h:p:=by
 rw[e]at h1;obtain⟨h2,-,h3⟩:=Kd.gQ h1;rw[←h2]at h3;exact⟨h3,by rw[h2,List.length_map]⟩):p:=h
theorem adV {p:Prop}(h:p:=by exact⟨q.nd,by simp,fun a ha b hb e=>Fx.1 hin (by rw[←List.mem_singleton.1 hb,←e];exact ha)⟩):p:=h
theorem aee {p:Prop}(h:p:=by
 rintro e w' ⟨rfl,h1,h2⟩;exact⟨rfl,zQ.same h1 h2⟩):p:=h
theorem Vl {p:Prop}(h:p:=by exact bW rfl h.vs (fun k q=>hk k (fun e=>r3 (e▸q)) (.inr (.inr (.inr (.inr (.inr (.inl q)))))))):p:=h
theorem adp {p:Prop}(h:p:=by
 unfold Oper.wp;simp[execOp,hop,hm,hx,(uU h ht hz s hs).1,Result.andThen];exact hK' _ _ hK):p:=h
theorem ac0 {p:Prop}(h:p:=by
 have jL:=hide (fun w2 h1 h2=>J.out.next (w2:=w2) hst h1 h2);have HST:=hide (J.out.stop hst);obtain⟨W2,hW2⟩:∃W2,wr.alloc (.cells #[.int .i64 yk,.string ys,.int .i64 yn,.slice (some eB) 1 c'] 24)=W2:=⟨_,rfl⟩;have hblk:W2.heap[wr.heap.size]?=some (.cells #[.int .i64 yk,.string ys,.int .i64 yn,.slice (some eB) 1 c'] 24 (0,0)):=by rw[←hW2];exact aR wr (.cells #[.int .i64 yk,.string ys,.int .i64 yn,.slice (some eB) 1 c'] 24)
 have HB2:=hide (show Below wr.heap.size wr W2 from hW2▸au (Below.refl wr.heap.size wr) (.cells #[.int .i64 yk,.string ys,.int .i64 yn,.slice (some eB) 1 c'] 24))
 have kU:=hide (fun W (h:Below W2.heap.size W2 W)=>show W.cell? ⟨wr.heap.size,0,none⟩=some (.int .i64 yk)∧W.cell? ⟨wr.heap.size,1,none⟩=some (.string ys)∧W.cell? ⟨wr.heap.size,2,none⟩=some (.int .i64 yn)∧W.cell? ⟨wr.heap.size,3,none⟩=some (.slice (some eB) 1 c')from by
  have m:=(h.block wr.heap.size (by rw[←hW2];simp)).trans hblk;exact⟨(aj m 0).trans rfl,(aj m 1).trans rfl,(aj m 2).trans rfl,(aj m 3).trans rfl⟩)
 clear hy dR g_ hst iO hzi hss yt I4 hn0 hblk hra qa hone hpn hpo
 cases po with
 |false=>
  go_wp2
  try rw[hW2]
  clear hW2;have hb0:Below W2.heap.size W2 W2.drew:=bq (Below.refl _ _);refine bX (n:=40) (S:=fun w'=>w'.cell? ⟨wr.heap.size,0,none⟩=some (.int .i64 yk)∧w'.cell? ⟨wr.heap.size,1,none⟩=some (.string ys)∧w'.cell? ⟨wr.heap.size,2,none⟩=some (.int .i64 yn)∧w'.cell? ⟨wr.heap.size,3,none⟩=some (.slice (some eB) 1 c')∧w'.cell? eB=some (.int .i64 t.f0)∧w'.cell? ⟨eB.block,eB.off+1,none⟩=some (.string t.f1)∧w'.cell? ⟨eB.block,eB.off+2,none⟩=some (.int .i64 t.f2)∧w'.cell? ⟨eB.block,eB.off+3,none⟩=some (.slice A2 t.f3.length c2)) (ds:=[]) #[false,false,false,false,false,false,false,false,false,false,false,false,false,false,false,false,false,false,false,false,false,false,false,false,false,false,false,false,false,false,false,false,false,false,false,false,false,false,false,false] (by kernel_rfl) rfl rfl ⟨(kU.out _ hb0).1,(kU.out _ hb0).2.1,(kU.out _ hb0).2.2.1,(kU.out _ hb0).2.2.2,(iI.out _ (HB2.out.trans ((hb0).mono HB2.out.size))).1,(iI.out _ (HB2.out.trans ((hb0).mono HB2.out.size))).2.1,(iI.out _ (HB2.out.trans ((hb0).mono HB2.out.size))).2.2.1,(iI.out _ (HB2.out.trans ((hb0).mono HB2.out.size))).2.2.2⟩ (fun hHeld=>?_);obtain⟨wd,hwd⟩:∃wd,wd=W2.drew:=⟨_,rfl⟩;rw[←hwd]at hHeld⊢;have B0:=hide (show Below W2.heap.size W2 wd by rw[hwd];exact hb0);clear hwd hb0;refine pv 0 37 ?_;refine tv 1 38 hHeld ?_;refine pv 2 39 ?_;refine pv 3 40 ?_;refine pv 4 41 ?_;refine tv 5 42 hHeld ?_;refine pv 6 43 ?_;refine pv 7 44 ?_;refine pv 8 45 ?_;refine pv 9 46 ?_;refine tv 10 47 hHeld ?_;refine pv 11 48 ?_;refine pv 12 49 ?_;refine pv 13 50 ?_;refine pv 14 51 ?_;refine pv 15 52 ?_;refine tv 16 53 hHeld ?_;refine pv 17 54 ?_;refine tv 18 55 hHeld ?_;refine iw (i:=19) (N:=some 56) #[true,true,true,true,true,true,true,true,true,true,true,true,true,true,true,true,true,true,true,true,false,false,false,false,false,false,false,false,false,false,false,false,false,false,false,false,false,false,false,false] rfl rfl (by kernel_rfl) (by decide) (fun K hK=>?_);refine nQ Tryz.func93 (by kernel_rfl) rfl #[.agg #[.int .i64 t.f0,.string t.f1,.int .i64 t.f2,.slice A2 t.f3.length c2]] (by rfl) rfl rfl (by simp only[List.map_toArray,List.map_cons,List.map_nil];rfl) ?_;with_reducible refine(HPO.out _).mono ?_
  rintro e w3 ⟨rfl,hk⟩;refine⟨_,rfl,?_⟩;have B1:=hide (B0.out.trans (hk.mono B0.out.size));clear hk;refine hK.out _ _ ⟨(kU.out _ B1.out).1,(kU.out _ B1.out).2.1,(kU.out _ B1.out).2.2.1,(kU.out _ B1.out).2.2.2,(iI.out _ (HB2.out.trans ((B1.out).mono HB2.out.size))).1,(iI.out _ (HB2.out.trans ((B1.out).mono HB2.out.size))).2.1,(iI.out _ (HB2.out.trans ((B1.out).mono HB2.out.size))).2.2.1,(iI.out _ (HB2.out.trans ((B1.out).mono HB2.out.size))).2.2.2⟩ (fun hHeld=>?_);clear hK K;refine cK (a':=?_) ?_ ?_;rotate_left
  ·show Act.put _ (some 56) _=_
   simp only[Act.put,List.setIfInBounds_toArray,List.set_cons_zero,List.set_cons_succ,fU,fV];rfl
  refine pv 20 57 ?_;refine pv 21 58 ?_;refine pu 22 59 ?_;refine pu 23 60 ?_;refine pu 24 61 ?_;refine pu 25 62 ?_;refine pu 26 63 ?_;refine pu 27 64 ?_;refine pu 28 65 ?_;refine pu 29 66 ?_;refine pu 30 67 ?_;refine pu 31 68 ?_;refine pu 32 69 ?_;refine pu 33 70 ?_;refine pu 34 71 ?_;refine pu 35 72 ?_;refine pu 36 73 ?_;refine pu 37 74 ?_;refine pv 38 75 ?_;refine pv 39 76 ?_;refine dP (by kernel_rfl) ?_;have HB3:=hide (HB2.out.trans (B1.out.mono HB2.out.size));have HW3:=hide B1.out;obtain⟨y30,y31,y32,y33⟩:=kU.out _ HW3.out;obtain⟨q30,q31,q32,q33⟩:=dI.out _ (J.out.b1.trans (HB3.out.mono J.out.sz))
  go_wp2_with (first
   |(go_at_call 87;(with_reducible refine(Mj.out _).mono ?_);rintro e u4 ⟨rfl,h4⟩;have jV:=hide (HB3.out.trans (h4.mono HB3.out.size));have HW4:=hide (HW3.out.trans (h4.mono HW3.out.size));obtain⟨y40,y41,y42,y43⟩:=kU.out _ HW4.out;obtain⟨q40,WS,q42,q43⟩:=dI.out _ (J.out.b1.trans (jV.out.mono J.out.sz));clear h4)
   |(go_at_call 13;(with_reducible refine(EG.out _).mono ?_);rintro e u5 ⟨rfl,h5⟩;have vB:=hide (jV.out.trans (h5.mono jV.out.size));have HW5:=hide (HW4.out.trans (h5.mono HW4.out.size));obtain⟨y50,y51,y52,y53⟩:=kU.out _ HW5.out;obtain⟨q50,q51,q52,q53⟩:=dI.out _ (J.out.b1.trans (vB.out.mono J.out.sz));clear h5))
  all_goals first
   |(go_ret;first|(refine⟨aI ?_,J.out.b0.trans (vB.out.mono J.out.b0.size)⟩;rw[fH.out,HST.out ?_];(try rfl);(try rw[iy.out]);simp[*];done)|(refine⟨aI ?_,J.out.b0.trans (jV.out.mono J.out.b0.size)⟩;rw[fH.out,HST.out ?_];(try rfl);(try rw[iy.out]);simp[*];done)|(refine⟨aI ?_,J.out.b0.trans (HB3.out.mono J.out.b0.size)⟩;rw[fH.out,HST.out ?_];(try rfl);(try rw[iy.out]);simp[*];done))
   |(have Q2:=hide (jL.out _ (by rw[iy.out];simp[*]) vB.out);go_roundg (len-i);(case measure=>omega);(case rel=>exact⟨i+1,by omega,by omega,by go_num,Q2⟩))
   |(have Q2:=hide (jL.out _ (by rw[iy.out];simp[*]) jV.out);go_roundg (len-i);(case measure=>omega);(case rel=>exact⟨i+1,by omega,by omega,by go_num,Q2⟩))
   |(have Q2:=hide (jL.out _ (by rw[iy.out];simp[*]) HB3.out);go_roundg (len-i);(case measure=>omega);(case rel=>exact⟨i+1,by omega,by omega,by go_num,Q2⟩))
 |true=>
 cases pn with
 |true=>
  go_wp2
  try rw[hW2]
  clear hW2;have hb0:Below W2.heap.size W2 W2.drew:=bq (Below.refl _ _);refine bX (n:=40) (S:=fun w'=>w'.cell? ⟨wr.heap.size,0,none⟩=some (.int .i64 yk)∧w'.cell? ⟨wr.heap.size,1,none⟩=some (.string ys)∧w'.cell? ⟨wr.heap.size,2,none⟩=some (.int .i64 yn)∧w'.cell? ⟨wr.heap.size,3,none⟩=some (.slice (some eB) 1 c')∧w'.cell? eB=some (.int .i64 t.f0)∧w'.cell? ⟨eB.block,eB.off+1,none⟩=some (.string t.f1)∧w'.cell? ⟨eB.block,eB.off+2,none⟩=some (.int .i64 t.f2)∧w'.cell? ⟨eB.block,eB.off+3,none⟩=some (.slice A2 t.f3.length c2)) (ds:=[]) #[false,false,false,false,false,false,false,false,false,false,false,false,false,false,false,false,false,false,false,false,false,false,false,false,false,false,false,false,false,false,false,false,false,false,false,false,false,false,false,false] (by kernel_rfl) rfl rfl ⟨(kU.out _ hb0).1,(kU.out _ hb0).2.1,(kU.out _ hb0).2.2.1,(kU.out _ hb0).2.2.2,(iI.out _ (HB2.out.trans ((hb0).mono HB2.out.size))).1,(iI.out _ (HB2.out.trans ((hb0).mono HB2.out.size))).2.1,(iI.out _ (HB2.out.trans ((hb0).mono HB2.out.size))).2.2.1,(iI.out _ (HB2.out.trans ((hb0).mono HB2.out.size))).2.2.2⟩ (fun hHeld=>?_);obtain⟨wd,hwd⟩:∃wd,wd=W2.drew:=⟨_,rfl⟩;rw[←hwd]at hHeld⊢;have B0:=hide (show Below W2.heap.size W2 wd by rw[hwd];exact hb0);clear hwd hb0;refine pv 0 37 ?_;refine tv 1 38 hHeld ?_;refine pv 2 39 ?_;refine pv 3 40 ?_;refine pv 4 41 ?_;refine tv 5 42 hHeld ?_;refine pv 6 43 ?_;refine pv 7 44 ?_;refine pv 8 45 ?_;refine pv 9 46 ?_;refine tv 10 47 hHeld ?_;refine pv 11 48 ?_;refine pv 12 49 ?_;refine pv 13 50 ?_;refine pv 14 51 ?_;refine pv 15 52 ?_;refine tv 16 53 hHeld ?_;refine pv 17 54 ?_;refine tv 18 55 hHeld ?_;refine iw (i:=19) (N:=some 56) #[true,true,true,true,true,true,true,true,true,true,true,true,true,true,true,true,true,true,true,true,false,false,false,false,false,false,false,false,false,false,false,false,false,false,false,false,false,false,false,false] rfl rfl (by kernel_rfl) (by decide) (fun K hK=>?_);refine nQ Tryz.func93 (by kernel_rfl) rfl #[.agg #[.int .i64 t.f0,.string t.f1,.int .i64 t.f2,.slice A2 t.f3.length c2]] (by rfl) rfl rfl (by simp only[List.map_toArray,List.map_cons,List.map_nil];rfl) ?_;with_reducible refine(HPO.out _).mono ?_
  rintro e w3 ⟨rfl,hk⟩;refine⟨_,rfl,?_⟩;have B1:=hide (B0.out.trans (hk.mono B0.out.size));clear hk;refine hK.out _ _ ⟨(kU.out _ B1.out).1,(kU.out _ B1.out).2.1,(kU.out _ B1.out).2.2.1,(kU.out _ B1.out).2.2.2,(iI.out _ (HB2.out.trans ((B1.out).mono HB2.out.size))).1,(iI.out _ (HB2.out.trans ((B1.out).mono HB2.out.size))).2.1,(iI.out _ (HB2.out.trans ((B1.out).mono HB2.out.size))).2.2.1,(iI.out _ (HB2.out.trans ((B1.out).mono HB2.out.size))).2.2.2⟩ (fun hHeld=>?_);clear hK K;refine cK (a':=?_) ?_ ?_;rotate_left
  ·show Act.put _ (some 56) _=_
   simp only[Act.put,List.setIfInBounds_toArray,List.set_cons_zero,List.set_cons_succ,fU,fV];rfl
  refine pv 20 57 ?_;refine pv 21 58 ?_;refine pv 22 59 ?_;refine tv 23 60 hHeld ?_;refine pv 24 61 ?_;refine tv 25 62 hHeld ?_;refine iw (i:=26) (N:=some 63) #[true,true,true,true,true,true,true,true,true,true,true,true,true,true,true,true,true,true,true,true,true,true,true,true,true,true,true,false,false,false,false,false,false,false,false,false,false,false,false,false] rfl rfl (by kernel_rfl) (by decide) (fun K hK=>?_);refine nQ Tryz.func96 (by kernel_rfl) rfl #[.agg #[.int .i64 t.f0,.string t.f1,.int .i64 t.f2,.slice A2 t.f3.length c2],.bool true] (by rfl) rfl rfl (by simp only[List.map_toArray,List.map_cons,List.map_nil];rfl) ?_;with_reducible refine(S9.out _).mono ?_
  rintro e w4 ⟨rfl,hk⟩;refine⟨_,rfl,?_⟩;have B2:=hide (B1.out.trans (hk.mono B1.out.size));clear hk;refine hK.out _ _ ⟨(kU.out _ B2.out).1,(kU.out _ B2.out).2.1,(kU.out _ B2.out).2.2.1,(kU.out _ B2.out).2.2.2,(iI.out _ (HB2.out.trans ((B2.out).mono HB2.out.size))).1,(iI.out _ (HB2.out.trans ((B2.out).mono HB2.out.size))).2.1,(iI.out _ (HB2.out.trans ((B2.out).mono HB2.out.size))).2.2.1,(iI.out _ (HB2.out.trans ((B2.out).mono HB2.out.size))).2.2.2⟩ (fun hHeld=>?_);clear hK K;refine cK (a':=?_) ?_ ?_;rotate_left
  ·show Act.put _ (some 63) _=_
   simp only[Act.put,List.setIfInBounds_toArray,List.set_cons_zero,List.set_cons_succ,fU,fV];rfl
  refine pv 27 64 ?_;refine pv 28 65 ?_;refine pu 29 66 ?_;refine pu 30 67 ?_;refine pu 31 68 ?_;refine pu 32 69 ?_;refine pu 33 70 ?_;refine pu 34 71 ?_;refine pu 35 72 ?_;refine pu 36 73 ?_;refine pv 37 74 ?_;refine pv 38 75 ?_;refine pv 39 76 ?_;refine dP (by kernel_rfl) ?_;have HB3:=hide (HB2.out.trans (B2.out.mono HB2.out.size));have HW3:=hide B2.out;go_wp2;go_ret
  first|(refine⟨aI ?_,J.out.b0.trans (HB3.out.mono J.out.b0.size)⟩;rw[fH.out,HST.out ?_];(try rfl);(try rw[iy.out]);simp[*];done)
 |false=>
 exact aqL):p:=h
theorem aes {p:Prop}(h:p:=by
 have d1:(w2.alloc (.cells #[.string tn,.int .i64 tk,.int .i64 tp,.int .i64 ti,.bool tc] 43)).cell? ⟨w2.heap.size,1,none⟩=some (.int .i64 tk):=(aj (aR w2 _) 1).trans rfl;go_wp2;clear d1;obtain⟨W3,hW3⟩:∃W3,w2.alloc (.cells #[.string tn,.int .i64 tk,.int .i64 tp,.int .i64 ti,.bool tc] 43)=W3:=⟨_,rfl⟩;rw[hW3];have hbx:W3.heap[w2.heap.size]?=some (.cells #[.string tn,.int .i64 tk,.int .i64 tp,.int .i64 ti,.bool tc] 43 (0,0)):=hW3▸aR w2 _;have hfr:Fr m.own w W3:=hW3▸Fr.of_below (au HB.out _);have HF:=hide (show RF D W3 m s from hW3▸H.out.below (au HB.out _));clear hW3;have dI:=hide hbx;have Yn:=hide hfr;have HD:=hide (show D≤W3.heap.size from Nat.le_trans Af.out hfr.size);have HS:=hide (fun(W:World) (hb:Below W3.heap.size W3 W)=>show W.cell? ⟨m.g,1,none⟩=some (m.vu)∧W.cell? ⟨w2.heap.size,2,none⟩=some (.int .i64 tp)from⟨(aj ((hb.block _ (ay HF.out.blk)).trans HF.out.blk) 1).trans rfl,(aj ((hb.block _ (ay dI.out)).trans dI.out) 2).trans rfl⟩);have HU:=hide (show(s:RS).uses=s.uses from rfl);clear hbx hfr c0 k0 k1 k2 k3 k4 vP h46;have hb0:Below W3.heap.size W3 W3.drew:=bq (Below.refl _ _);refine bX (n:=16) (S:=fun w'=>w'.cell? ⟨m.g,1,none⟩=some (m.vu)∧w'.cell? ⟨w2.heap.size,2,none⟩=some (.int .i64 tp)) (ds:=[12,15]) #[false,false,false,false,false,false,false,false,false,false,false,false,false,false,false,false] (by kernel_rfl) rfl rfl ⟨(HS.out _ hb0).1,(HS.out _ hb0).2⟩ (fun hHeld=>?_);obtain⟨we,hwd⟩:∃wd,wd=W3.drew:=⟨_,rfl⟩;rw[←hwd]at hHeld⊢;have E0:=hide (show Below W3.heap.size W3 we by rw[hwd];exact hb0);clear hwd hb0;refine pv 0 38 ?_;refine pv 1 39 ?_;refine pv 2 40 ?_;refine pv 3 41 ?_;refine pv 5 43 ?_;refine pv 6 44 ?_;refine pv 7 45 ?_;refine pv 9 47 ?_;refine tv 4 42 hHeld ?_;refine tv 8 46 hHeld ?_;refine pv 10 48 ?_;refine iw (i:=11) (N:=some 49) #[true,true,true,true,true,true,true,true,true,true,true,true,false,false,false,false] rfl rfl (by kernel_rfl) (by decide) (fun K hK=>?_);refine gW (w1:=?_) (v:=?_) (by rfl) rfl ?_ ?_;rotate_left 2
 ·go_simp
  constructor
  ·rfl
  ·rfl
 have E1:=hide (E0.out.trans ((au (Below.refl we.heap.size we) (.cells #[.int .i64 p,.int .i64 4,.int .i64 tp,.string name,.bool false] 37)).mono E0.out.size));refine hK.out _ _ ⟨(HS.out _ E1.out).1,(HS.out _ E1.out).2⟩ (fun hHeld=>?_);clear hK K;refine cK (a':=?_) ?_ ?_;rotate_left
 ·show Act.put _ (some 49) _=_
  simp only[Act.put,List.setIfInBounds_toArray,List.set_cons_zero,List.set_cons_succ,fU,fV];rfl
 refine eF (i:=12) (N:=some 50) #[true,true,true,true,true,true,true,true,true,true,true,true,true,false,false,false] rfl rfl (by kernel_rfl) (by decide) (fun K hK=>?_);refine Kd.cZ K5 (w0:=we) D (by rfl) (.tmp 42) (.tmp 49) 26 37 xH 48 rfl Tryz.underlying26 jZ rfl (by decide) (by omega) m.vu (_:List (List Value)) (bV.cs (⟨p,4,tp,name,false⟩:bV)) [.int .i64 p,.int .i64 4,.int .i64 tp,.string name,.bool false] (fun k=>D≤k) (fun _=>False) rfl rfl ⟨rfl,rfl,by simp[Value.oneCell']⟩ (fun _ hk=>hk.elim) (fun k hk=>Nat.le_trans HD.out (Nat.le_trans E0.out.size hk)) (Kd.bS HF.out.vu E0.out) (Below.refl _ _) (Nat.le_trans HD.out E0.out.size) (by rw[List.length_map];first|omega|(have:=Oc.out;omega)) ?_;intro v1 w6 h1 h2 h3 h4;obtain⟨A9,c9,rfl,-,-⟩:=Kd.bL h1;rw[List.length_append,List.length_map]at h1 h4;have F1:=hide h1;have F3:=hide h3;have F4:=hide h4;clear h1 h2 h3 h4;have f6:=aQ ((F3.out.block _ (Nat.lt_of_lt_of_le (ay HF.out.blk) E0.out.size) (fun e=>HF.out.qj.2.1 e.symm)).trans ((E0.out.block _ (ay HF.out.blk)).trans HF.out.blk)) 1;have e6:=(aj ((F3.out.block _ (Nat.lt_of_lt_of_le (ay HF.out.blk) E0.out.size) (fun e=>HF.out.qj.2.1 e.symm)).trans ((E0.out.block _ (ay HF.out.blk)).trans HF.out.blk)) 1).trans rfl;refine hK.out _ _ ?_;clear hK K;refine cK (a':=?_) ?_ ?_;rotate_left
 ·show Act.put _ (some 50) _=_
  simp only[Act.put,List.setIfInBounds_toArray,List.set_cons_zero,List.set_cons_succ,fU,fV];rfl
 refine pv 13 51 ?_;refine pv 14 52 ?_;refine eF (i:=15) (N:=none) #[true,true,true,true,true,true,true,true,true,true,true,true,true,true,true,true] rfl rfl (by kernel_rfl) (by decide) (fun K hK=>?_);refine gy (w1:=?_) (by rfl) rfl ?_ ?_;rotate_left
 ·go_simp
  rfl
 refine hK.out _ _ ?_;clear hK K;refine dP (by kernel_rfl) ?_;have Lg:w6.heap[w2.heap.size]?=some (.cells #[.string tn,.int .i64 tk,.int .i64 tp,.int .i64 ti,.bool tc] 43 (0,0)):=(F3.out.block _ (Nat.lt_of_lt_of_le (ay dI.out) E0.out.size) (fun e=>by have:=H.out.hi _ (.inr (.inr (.inl e.symm)));have:=HB.out.size;omega)).trans ((E0.out.block _ (ay dI.out)).trans dI.out);have hgb:w2.heap.size≠m.g:=fun e=>by have:=H.out.hi _ (.inl rfl);have:=HB.out.size;omega
 have e4:∀u,(w6.setCell ⟨m.g,1,none⟩ u).cell? ⟨w2.heap.size,4,none⟩=some (.bool tc):=fun u=>(aj ((Below.heap_setCell _ _ _ _ hgb).trans Lg) 4).trans rfl;clear Lg hgb;go_wp2;go_ret;have hmk:=Rk.wJ (t:=(⟨p,4,tp,name,false⟩:bV)) HF.out (Below.refl _ _) E0.out F3.out F1.out F4.out
 have hrs:rs=({(s:RS)with uses:=s.uses++[(⟨p,4,tp,name,false⟩:bV)]},!tc):=by
  rw[jo.out,HKK.out];rw[if_neg (fun e=>by have:=Yt.out.1 e;cases this)]
  try rfl
 rw[hrs];refine⟨rfl,?_⟩;have h9:=Rk.trans (RM.Up.refl _ _) Yn.out hmk
 skip
 exact h9):p:=h
theorem adX {p:Prop}(h:p:=by
 go_ret;exact⟨by first|rfl|(simp[uS,uT]<;>rfl)|(simp[*,uS,uT]<;>rfl),by repeat (first|(with_reducible first|exact HB.out|apply au|apply dJ|apply gZ)|exact HB.out)⟩):p:=h
theorem vQ {p:Prop}(h:p:=by
 by_cases c10:zN=true
 ·subst c10
  have H1:(if a0=215 then(some false)else(some (a0 != 247)))=some r:=by rw[if_pos rfl]at H;exact H
  clear H;have H:=H1;clear H1;by_cases c11:a0=215
  ·rw[if_pos c11]at H
   have ady:(a0==215)=true:=beq_iff_eq.mpr c11;have adz:(a0 != 215)=false:=bne_eq_false_iff_eq.mpr c11;clear c11;obtain rfl:=Option.some.inj H;go_wp2;go_ret;exact sU
  ·rw[if_neg c11]at H
   have ady:(a0==215)=false:=beq_eq_false_iff_ne.mpr c11;have adz:(a0 != 215)=true:=bne_iff_ne.mpr c11;obtain rfl:=Option.some.inj H;go_wp2;go_ret;exact sU
 ·replace c10:=Bool.eq_false_iff.mpr c10
  subst c10;have H1:(if a0≥913 then(if a0≤969 then(some (a0 != 930))else(if a0≥1040 then(some (decide (a0≤1103)))else(some false)))else(if a0≥1040 then(some (decide (a0≤1103)))else(some false)))=some r:=by rw[if_neg (show¬(false=true)by decide)]at H;exact H
  clear H;have H:=H1;clear H1;by_cases c12:a0≥913
  ·rw[if_pos c12]at H
   have Ep:decide (913≤a0)=true:=decide_eq_true c12;clear c12;by_cases c13:a0≤969
   ·rw[if_pos c13]at H
    have Ku:decide (a0≤969)=true:=decide_eq_true c13;clear c13;obtain rfl:=Option.some.inj H;go_wp2;go_ret;exact sU
   ·rw[if_neg c13]at H
    have Ku:decide (a0≤969)=false:=decide_eq_false c13;clear c13;by_cases c14:a0≥1040
    ·rw[if_pos c14]at H
     have Kv:decide (1040≤a0)=true:=decide_eq_true c14;clear c14;obtain rfl:=Option.some.inj H;go_wp2;go_ret;exact sU
    ·rw[if_neg c14]at H
     have Kv:decide (1040≤a0)=false:=decide_eq_false c14;clear c14;obtain rfl:=Option.some.inj H;go_wp2;go_ret;exact sU
  ·rw[if_neg c12]at H
   have Ep:decide (913≤a0)=false:=decide_eq_false c12;clear c12;by_cases c15:a0≥1040
   ·rw[if_pos c15]at H
    have Er:decide (1040≤a0)=true:=decide_eq_true c15;clear c15;obtain rfl:=Option.some.inj H;go_wp2;go_ret;exact sU
   ·rw[if_neg c15]at H
    have Er:decide (1040≤a0)=false:=decide_eq_false c15;clear c15;obtain rfl:=Option.some.inj H;go_wp2;go_ret;exact sU):p:=h
theorem ac1 {p:Prop}(h:p:=by
 go_wp2_with (go_at_call 12;refine(lW.out w2 Mf.out).mono ?_;rintro e w3 ⟨rfl,h3⟩;have Q2:=hide (QN.out w2 w3 Mf.out h3);clear h3);rw[rZ.out.g];go_roundg (n-i)
 case measure=>omega
 case rel=>exact⟨i+1,p+q,by omega,by omega,by go_num,by rw[hws],Q2⟩):p:=h
theorem aeG {p:Prop}(h:p:=by
 go_roundg (len-i)
 case measure=>omega
 case rel=>exact⟨i+1,by omega,by omega,by go_num,Q2⟩):p:=h
theorem vS {p:Prop}(h:p:=by
 go_roundg (n-i)
 case measure=>omega
 case rel=>exact⟨i+1,p+s,by omega,by omega,by go_num,by rw[hws],Q2⟩):p:=h
theorem Ck {p:Prop}(h:p:=by
 simp only[Option.some.injEq,Prod.mk.injEq]at H;obtain⟨rfl,rfl⟩:=H;go_wp2;go_ret2;exact sU):p:=h
theorem xO {p:Prop}(h:p:=by
 rcases hk with hk|hk|hk|hk|hk|hk|hk
 ·exact .inl (.inl hk)
 ·exact .inl (.inr (.inl hk))
 ·exact .inl (.inr (.inr (.inl hk)))
 ·exact .inl (.inr (.inr (.inr (.inl hk))))
 ·exact .inl (.inr (.inr (.inr (.inr (.inl hk)))))
 ·rcases F4.out with q|⟨j,q,hj⟩
  ·refine .inl (.inr (.inr (.inr (.inr (.inr (.inl ?_))))));unfold bQ at*;rw[←q];exact hk
  ·unfold bQ at hk;rw[q]at hk;cases hk;exact .inr (.inr hj)
 ·have hk:k∈m.ms++[w.heap.size+1]:=hk
  rcases List.mem_append.1 hk with q|q
  ·exact .inl (.inr (.inr (.inr (.inr (.inr (.inr q))))))
  ·simp at q;exact .inr (.inl q.symm)):p:=h
theorem adx {p:Prop}(h:p:=by rw[Bool.eq_iff_iff,beq_iff_eq,decide_eq_true_eq,←str_eq,show bB.toList=[100,101,102,97,117,108,116]from by rw[ByteArray.toList_eq];rfl]):p:=h
theorem Ki {p:Prop}(h:p:=by
 have e0:w2.cell? ⟨wr.heap.size,0,none⟩=some (.int .i64 y.f0):=(aj xX 0).trans rfl;have e1:w2.cell? ⟨wr.heap.size,1,none⟩=some (.string y.f1):=(aj xX 1).trans rfl;have e2:w2.cell? ⟨wr.heap.size,2,none⟩=some (.int .i64 y.f2):=(aj xX 2).trans rfl;have e3:w2.cell? ⟨wr.heap.size,3,none⟩=some (.slice (some eB) yn c'):=(aj xX 3).trans rfl;clear hq hb3 j5 xX k0 k1 k2 k3 b3 j0 j1;exact YR):p:=h
theorem aeb {p:Prop}(h:p:=by
 go_roundg (n-i)
 case measure=>omega
 case rel=>exact⟨i+1,by omega,by omega,by go_num,Q2⟩):p:=h
theorem JZ {p:Prop}(h:p:=by
 ((try simp only[Exit.inBlock,Exit.then]);refine bodyPost_ret (results_none rfl _ _ _) rfl ?_)
 exact⟨rfl,Rk.shift HB.out (Rk.same HQ.out.1 HQ.out.2)⟩):p:=h
theorem Ym {p:Prop}(h:p:=by
 unfold lastT OH
 repeat' split
 all_goals first|rfl|(exfalso;omega)|(apply Prod.ext<;>simp only<;>omega)|(simp_all;done)|(simp_all;omega)):p:=h
theorem Ke {p:Prop}(h:p:=by
 refine Fr.grown ?_ qx (fun k e=> .inl (.inr e));exact(Fr.of_below h0).more h5):p:=h
theorem ZJ {p:Prop}(h:p:=by
 show Act.put _ (some 65) _=_;simp only[Act.put,List.setIfInBounds_toArray,List.set_cons_zero,List.set_cons_succ,fU,fV];rfl):p:=h
theorem ac4 {p:Prop}(h:p:=by
 go_wp2;go_roundg k1
 case measure=>have:=JJ.out;omega
 case rel=>exact⟨(wrap64 (jH+1)),(by first|rfl|(simp;done)|(simp[*];done)),H',⟨by have:=JJ.out;omega⟩,by repeat (first|exact bU.refl _|apply bU.step)⟩):p:=h
theorem aeo {p:Prop}(h:p:=by
 rw[Ec];go_wp2
 all_goals first|(exfalso;have h:=hl0;simp only[decide_eq_true_eq]at h;omega)|(go_ret;exact⟨aI (by first|(rw[QM.out];done)|(rw[QM.out];simp[*];done)),J.out.b0⟩)):p:=h
theorem adh {p:Prop}(h:p:=by
 obtain rfl:i=len:=by omega
 go_wp2;go_ret;exact⟨aI (by have h:=Q.out.1.eq;rw[HL.out]at h;rw[h,List.drop_eq_nil_of_le (by rw[HL.out];exact Nat.le_refl _),nR]),Q.out.1.below⟩):p:=h
theorem adj {p:Prop}(h:p:=by
 obtain rfl:i=len:=by omega
 go_wp2;go_ret;exact⟨aI (by rw[Q.out.1.eq,List.drop_eq_nil_of_le (by rw[HL.out];exact Nat.le_refl _)];rfl),Q.out.1.below⟩):p:=h
theorem adJ {p:Prop}(h:p:=by
 go_enter Tryz.func39,Tryz.ntmps39;go_wp2_with (go_at_call 21;refine HC.out.mono ?_;rintro e w3 ⟨rfl,hq⟩;have Jt:=hide hq;clear hq);exact Qj):p:=h
theorem aea {p:Prop}(h:p:=by
 rw[hrs];rw[hwk]at hrs;have jo:=hide hrs;have hcall:=zo hf (hk (by decide)) hpl A c W1 m st pos true hl1 hr hf1 hbd;exact ad_):p:=h
theorem Vg {p:Prop}(h:p:=by
 go_wp2;go_roundg (nu-i)
 case measure=>omega
 case rel=>exact⟨i+1,by omega,by omega,by rw[HF2.out],by go_num,Q3⟩):p:=h
theorem adR {p:Prop}(h:p:=by obtain⟨cs,q⟩:=Kd.dO h.vl _ e;rw[hb]at q;cases q):p:=h
theorem ac2 {p:Prop}(h:p:=by
 split at h0
 ·exact Qx
 ·split at h0
  ·exact Qx
  ·rename_i hk
   rw[if_neg hk,if_neg hk];rfl):p:=h
theorem eX {p:Prop}(h:p:=by
 clear c2;obtain rfl:=Option.some.inj H;go_enter Tryz.func111,Tryz.ntmps111;go_wp2;go_ret;exact sU):p:=h
theorem aad {p:Prop}(h:p:=by
 simp only[Act.put,List.setIfInBounds_toArray,List.set_cons_zero,List.set_cons_succ,fU,fV];rfl):p:=h
theorem V_ {p:Prop}(h:p:=by
 refine pv 13 50 ?_;refine pv 14 51 ?_;refine pu 15 52 ?_;refine pu 16 53 ?_;refine pu 17 54 ?_;refine pu 18 55 ?_;refine pu 19 56 ?_;refine pu 20 57 ?_;refine pu 21 58 ?_;refine pu 22 59 ?_;refine pu 23 60 ?_;refine pu 24 61 ?_;refine pu 25 62 ?_;refine pu 26 63 ?_;refine pu 27 64 ?_;refine pu 28 65 ?_;refine pu 29 66 ?_;refine pu 30 67 ?_;refine pu 31 68 ?_;refine pu 32 69 ?_;refine pu 33 70 ?_;refine pu 34 71 ?_;refine pu 35 72 ?_;refine pu 36 73 ?_;refine pu 37 74 ?_;refine pu 38 75 ?_;refine pv 39 76 ?_;refine dP (by kernel_rfl) ?_;have HB3:=hide (HB2.out.trans (B0.out.mono HB2.out.size));have HW3:=hide B0.out;go_wp2;go_ret
 first|(refine⟨aI ?_,J.out.b0.trans (HB3.out.mono J.out.b0.size)⟩;rw[fH.out,HST.out ?_];(try rfl);(try rw[iy.out]);simp[*];done)):p:=h
theorem Uo {p:Prop}(h:p:=by
 have Ci:0≤(jJ:Int):=of_decide_eq_true (by first|(with_reducible assumption)|assumption);have Cj:jJ<(iD.length:Int):=of_decide_eq_true (by first|(with_reducible assumption)|assumption);obtain⟨adA,e167,Qg⟩:=Kd.mO (Kd.gQ oQ.out).2.2 jJ Ci Cj
 cases e167
 replace Ci:=eq_true Ci
 replace Cj:=eq_true Cj
 go_wp2_with (first|((with_reducible refine dM (f:=52) rfl ?_);refine jN (some 41) rfl rfl Tryz.func52 (by kernel_rfl) rfl #[.string (iq ByteArray.empty iD jJ)] rfl (by(try simp only[List.map_toArray,List.map_cons,List.map_nil]);first|done|rfl|(simp only[List.length_drop,List.length_take];rfl)) ?_;(with_reducible refine(av.calls k2 (iq ByteArray.empty iD jJ) t168 jB _ A17.out).mono ?_);rintro e w' ⟨rfl,⟨nd,rfl⟩⟩;refine⟨_,rfl,?_⟩)|((with_reducible refine dM (f:=53) rfl ?_);refine jN (some 45) rfl rfl Tryz.func53 (by kernel_rfl) rfl #[.int .i64 jB] rfl (by(try simp only[List.map_toArray,List.map_cons,List.map_nil]);first|done|rfl|(simp only[List.length_drop,List.length_take];rfl)) ?_;(with_reducible refine(aJ.calls k2 jB false _ A18.out).mono ?_);rintro e w' ⟨rfl,⟨nd,rfl⟩⟩;refine⟨_,rfl,?_⟩));exact adX):p:=h
theorem OV {p:Prop}(h:p:=by
 have H:=HC8.out;clear HC8;by_cases c9:a0≥192
 ·rw[if_pos c9]at H
  have JH:decide (192≤a0)=true:=decide_eq_true c9;clear c9
  (first|rw[JH]|(simp only[fU,fV];rw[JH])|skip)
  have H':=Aside0.mk H;clear H;go_wp2;go_meet
  case rel=>exact⟨_,(decide (a0≤591)),(by first|rfl|(simp;done)|(simp[*];done)),H',⟨by have:=HJ1.out;have:=HJ3.out;first|omega|exact Nat.le_refl _⟩,by repeat (first|exact bU.refl _|apply bU.step)⟩
 ·rw[if_neg c9]at H
  have JH:decide (192≤a0)=false:=decide_eq_false c9;clear c9
  (first|rw[JH]|(simp only[fU,fV];rw[JH])|skip)
  have H':=Aside0.mk H;clear H;go_wp2;go_meet
  case rel=>exact⟨_,(false),(by first|rfl|(simp;done)|(simp[*];done)),H',⟨by have:=HJ1.out;have:=HJ3.out;first|omega|exact Nat.le_refl _⟩,by repeat (first|exact bU.refl _|apply bU.step)⟩):p:=h
theorem WC {p:Prop}(h:p:=by
 intro v6 w9 h1 h2 h3 h4;have hb9:Below w.heap.size w w9:=HB0.out.trans (h2.mono (by omega));have hs9:w.heap.size+1≤w9.heap.size:=by have:=h2.size;simpa using this
 have Q2:=hide (jL.out w9 v6 (by rw[vU.out];simp[*]) (by rw[EG.out];assumption) h2 hb9 hs9 h1);clear h1 h2 h3 h4 hb9 hs9 hsz;go_wp2;exact aeG):p:=h
theorem I9 {p:Prop}(h:p:=by
 have d0:w2.cell? ⟨wr.heap.size,0,none⟩=some (.int .i64 y.f0):=(aj hx2 0).trans rfl;have d1:w2.cell? ⟨wr.heap.size,1,none⟩=some (.string y.f1):=(aj hx2 1).trans rfl;have d2:w2.cell? ⟨wr.heap.size,2,none⟩=some (.int .i64 y.f2):=(aj hx2 2).trans rfl;have d3:w2.cell? ⟨wr.heap.size,3,none⟩=some (.slice A' y.f3.length c'):=(aj hx2 3).trans rfl;clear Cn hfr2 GJ hsc hq2 hx2 hb2 hs hpp hlen1 hs0 zR hwb hbb hxb k0 k1 k2 k3;unfold nd at lW;go_wp2_with (go_at_call 20;refine lW.out.mono ?_;rintro e w3 ⟨rfl,h3⟩;have Q2:=hide (QN.out w3 h3);clear h3);exact vS):p:=h
theorem VY {p:Prop}(h:p:=by
 obtain rfl:i=len:=by omega
 go_wp2;go_ret;exact⟨aI (by rw[fH.out,show gM l=gM (l.drop i)from J.out.eq,List.drop_eq_nil_of_le (by rw[HL.out];exact Nat.le_refl _)];rfl),J.out.b0⟩):p:=h
theorem OE {p:Prop}(h:p:=by
 simp only[Option.some.injEq,Prod.mk.injEq]at H;obtain⟨rfl,rfl⟩:=H;have p18:0≤(om:Int):=of_decide_eq_true (by first|(with_reducible assumption)|assumption);have q18:om<(a0.size:Int):=of_decide_eq_true (by first|(with_reducible assumption)|assumption);have anY:=DW a0 om
 replace p18:=eq_true p18
 replace q18:=eq_true q18
 go_wp2;go_ret2;exact sU):p:=h
theorem Xo {p:Prop}(h:p:=by
 obtain rfl:i=len:=by omega
 go_wp2;go_end0;have hq:=Q.out.q;rw[List.take_of_length_le (by rw[HLEN.out];exact Nat.le_refl _)]at hq;rw[←jo.out];exact⟨rfl,Rk.shift HB1.out hq⟩):p:=h
theorem Ye {p:Prop}(h:p:=by
 have:=(hcell2 (wr.alloc o) (fun k hk=>(Below.heap_alloc _ _ _ (by have:=gK.out.lg;have:=ay gK.out.blk;have:=Q.out.q.fr.size;omega)).trans (hbw.block k hk))).2.1;simp only[lN]at this;exact this):p:=h
theorem yF {p:Prop}(h:p:=by
 subst e;rcases hk with hk|hk
 ·obtain⟨cs,q⟩:=Kd.dO HHT.out.1 _ hk;rw[Yb.out.2]at q;cases q
 ·obtain⟨cs,q⟩:=Kd.dO HHT.out.2 _ hk;rw[Yb.out.2]at q;cases q):p:=h
theorem Y2 {p:Prop}(h:p:=by
 rw[if_neg c5]at H;exact absurd H (by simp)):p:=h
theorem Zr {p:Prop}(h:p:=by
 have Q2:=hide (And.intro (jL.out _ (by rw[vU.out];simp[*]) HB2.out) (J.out.2.trans (HB2.out.mono (by have:=J.out.2.size;simp at this;omega))));exact aeG):p:=h
theorem Um {p:Prop}(h:p:=by
 have jL:=hide (fun w2 h1 h2=>J.out.next (w2:=w2) hst h1 h2);have HST:=hide (J.out.stop hst);obtain⟨jd,fA⟩:∃z,yl.length=z:=⟨_,rfl⟩;rw[fA]at k3 h1;obtain⟨W2,hW2⟩:∃W2,wr.alloc (.cells #[.int .i64 yk,.string ys,.int .i64 yn,.slice A' jd c'] 24)=W2:=⟨_,rfl⟩;have hblk:W2.heap[wr.heap.size]?=some (.cells #[.int .i64 yk,.string ys,.int .i64 yn,.slice A' jd c'] 24 (0,0)):=by rw[←hW2];exact aR wr (.cells #[.int .i64 yk,.string ys,.int .i64 yn,.slice A' jd c'] 24)
 have HB2:=hide (show Below wr.heap.size wr W2 from hW2▸au (Below.refl wr.heap.size wr) (.cells #[.int .i64 yk,.string ys,.int .i64 yn,.slice A' jd c'] 24))
 have kU:=hide (fun W (h:Below W2.heap.size W2 W)=>show W.cell? ⟨wr.heap.size,0,none⟩=some (.int .i64 yk)∧W.cell? ⟨wr.heap.size,1,none⟩=some (.string ys)∧W.cell? ⟨wr.heap.size,2,none⟩=some (.int .i64 yn)∧W.cell? ⟨wr.heap.size,3,none⟩=some (.slice A' jd c')from by
  have m:=(h.block wr.heap.size (by rw[←hW2];simp)).trans hblk;exact⟨(aj m 0).trans rfl,(aj m 1).trans rfl,(aj m 2).trans rfl,(aj m 3).trans rfl⟩)
 clear hy dR g_ hst iO hzi hss yt I4 hn0 hblk fA hq hone;go_wp2
 try rw[hW2]
 clear hW2;have hb0:Below W2.heap.size W2 W2.drew:=bq (Below.refl _ _);refine bX (n:=40) (S:=fun w'=>w'.cell? ⟨wr.heap.size,0,none⟩=some (.int .i64 yk)∧w'.cell? ⟨wr.heap.size,1,none⟩=some (.string ys)∧w'.cell? ⟨wr.heap.size,2,none⟩=some (.int .i64 yn)∧w'.cell? ⟨wr.heap.size,3,none⟩=some (.slice A' jd c')) (ds:=[]) #[false,false,false,false,false,false,false,false,false,false,false,false,false,false,false,false,false,false,false,false,false,false,false,false,false,false,false,false,false,false,false,false,false,false,false,false,false,false,false,false] (by kernel_rfl) rfl rfl ⟨(kU.out _ hb0).1,(kU.out _ hb0).2.1,(kU.out _ hb0).2.2.1,(kU.out _ hb0).2.2.2⟩ (fun hHeld=>?_);obtain⟨wd,hwd⟩:∃wd,wd=W2.drew:=⟨_,rfl⟩;rw[←hwd]at hHeld⊢;have B0:=hide (show Below W2.heap.size W2 wd by rw[hwd];exact hb0);clear hwd hb0;refine pv 0 37 ?_;refine tv 1 38 hHeld ?_;refine pv 2 39 ?_;refine pv 3 40 ?_;refine pv 4 41 ?_;refine tv 5 42 hHeld ?_;refine pv 6 43 ?_;refine pv 7 44 ?_;refine pv 8 45 ?_;refine pv 9 46 ?_;refine tv 10 47 hHeld ?_;refine pv 11 48 ?_;refine pv 12 49 ?_;exact V_):p:=h
theorem Ow {p:Prop}(h:p:=by
 clear H;have H:=H1;clear H1;by_cases c6:a0≥65
 ·rw[if_pos c6]at H
  have mQ:decide (65≤a0)=true:=decide_eq_true c6;clear c6
  (first|rw[mQ]|(simp only[fU,fV];rw[mQ])|skip)
  have H':=Aside0.mk H;clear H;go_wp2;go_meet
  case rel=>exact⟨_,(decide (a0≤90)),(by first|rfl|(simp;done)|(simp[*];done)),H',⟨by have:=HJ1.out;first|omega|exact Nat.le_refl _⟩,by repeat (first|exact bU.refl _|apply bU.step)⟩
 ·rw[if_neg c6]at H
  have mQ:decide (65≤a0)=false:=decide_eq_false c6;clear c6
  (first|rw[mQ]|(simp only[fU,fV];rw[mQ])|skip)
  have H':=Aside0.mk H;clear H;go_wp2;go_meet
  case rel=>exact⟨_,(false),(by first|rfl|(simp;done)|(simp[*];done)),H',⟨by have:=HJ1.out;first|omega|exact Nat.le_refl _⟩,by repeat (first|exact bU.refl _|apply bU.step)⟩):p:=h
theorem V5 {p:Prop}(h:p:=by
 go_wp2_with (go_at_call 98;refine Aside0.out ?_);refine⟨?_⟩;refine(jg Oq p 90).mono ?_;rintro e w2 ⟨rfl,h5,h6⟩
 have hq2:Rk D m1 s2 wb w2:=by
  have h2:=Ov.out;simp only[if_true]at h2;rw[h2];exact Rk.shift RB.out (Rk.same h5 h6)
 have Mf:=hide hq2;clear h5 h6 hq2 Oq;obtain⟨d0,d1,d2,d3⟩:=HSC.out w2 Mf.out;clear c2;exact ac1):p:=h
theorem WI {p:Prop}(h:p:=by
 go_wp2;go_meet
 case rel=>exact⟨_,(true),(by first|rfl|(simp;done)|(simp[*];done)),H',⟨by first|omega|exact Nat.le_refl _⟩,⟨by(with_reducible repeat (first|apply Kd.iU|apply Kd.jq|apply Kd.kY));exact Ky.out⟩,⟨by repeat (first|(with_reducible first|exact HB.out|apply au|apply dJ|apply gZ)|exact HB.out)⟩⟩):p:=h
theorem OY {p:Prop}(h:p:=by
 have Yn:=hide hq.fr;clear hq hbw hgr hbd g1 g2 g3 g4 g5;unfold nd at HC;go_wp2_with (go_at_call 21;refine HC.out.mono ?_;rintro e w2 ⟨rfl,hq⟩;have HQ:=hide hq;clear hq);go_end0;exact⟨rfl,_,Wk.trans (FM.Up.refl _ _) (Yn.out.mono (by rintro k (rfl|rfl);exact .inl rfl;exact .inr (.inr (.inr (.inr (.inr (.inr HBM.out))))))) HQ.out⟩):p:=h
theorem VP {p:Prop}(h:p:=by
 obtain rfl:i=len:=by omega
 have QM:=hide (J.out.done (by rw[HL.out];exact Nat.le_refl _));go_wp2;go_ret;exact⟨aI QM.out.symm,J.out.b0⟩):p:=h
theorem Xp {p:Prop}(h:p:=by
 have q:∀k,w.heap.size≤k→¬bQ m.vs k:=fun k hk e=>by have:=H.out.hi _ (.inr (.inr (.inr (.inr (.inr (.inl e))))));omega
 have hx:=dI.out.1.fr Qa.out (q _ (by omega)) (q _ (Nat.le_refl _));have hg:=HGL.out;exact⟨(e7 _ (by omega)).trans hx.s,(e7 _ (by omega)).trans hx.f⟩):p:=h
theorem Us {p:Prop}(h:p:=by
 have:=(hcell2 (wr.alloc o) (fun k hk=>(Below.heap_alloc _ _ _ (by have:=gK.out.lg;have:=ay gK.out.blk;have:=Q.out.q.fr.size;omega)).trans (hbw.block k hk))).1;simp only[lN]at this;exact this):p:=h
theorem wH {p:Prop}(h:p:=by
 rw[if_neg c3]at H;have sS:decide (jH<(l0.length:Int))=false:=decide_eq_false c3;clear c3;obtain rfl:=Option.some.inj H;go_wp2;go_ret;exact sU):p:=h
theorem Wj {p:Prop}(h:p:=by simp[bQ,Value.ownBlock]at hk):p:=h
theorem Vu {p:Prop}(h:p:=by
 clear c4;obtain rfl:=Option.some.inj H;obtain⟨Ao9,co9,eo9⟩:=Kd.iJ oQ.out;subst eo9;go_wp2;exact adX):p:=h
theorem ZR {p:Prop}(h:p:=by simp only[mP,List.foldl_cons,List.foldl_nil,List.setIfInBounds_toArray,List.set_cons_zero,List.set_cons_succ]):p:=h
theorem Ga {p:Prop}(h:p:=by
 go_wp2;go_roundg (nt-i)
 case measure=>omega
 case rel=>exact⟨i+1,by omega,by omega,by go_num,Q2⟩):p:=h
theorem Zp {p:Prop}(h:p:=by
 show Act.put _ (some 63) _=_;exact aad):p:=h
theorem Uj {p:Prop}(h:p:=by
 have jL:=hide (fun w2 h1 h2=>J.out.next (w2:=w2) hst h1 h2);have HST:=hide (J.out.stop hst);obtain⟨jd,fA⟩:∃z,yl.length=z:=⟨_,rfl⟩;rw[fA]at k3;obtain⟨W2,hW2⟩:∃W2,wr.alloc (.cells #[.int .i64 yk,.string ys,.int .i64 yn,.slice A' jd c'] 24)=W2:=⟨_,rfl⟩;have hblk:W2.heap[wr.heap.size]?=some (.cells #[.int .i64 yk,.string ys,.int .i64 yn,.slice A' jd c'] 24 (0,0)):=by rw[←hW2];exact aR wr (.cells #[.int .i64 yk,.string ys,.int .i64 yn,.slice A' jd c'] 24)
 have HB2:=hide (show Below wr.heap.size wr W2 from hW2▸au (Below.refl wr.heap.size wr) (.cells #[.int .i64 yk,.string ys,.int .i64 yn,.slice A' jd c'] 24))
 have kU:=hide (fun W (h:Below W2.heap.size W2 W)=>show W.cell? ⟨wr.heap.size,0,none⟩=some (.int .i64 yk)∧W.cell? ⟨wr.heap.size,1,none⟩=some (.string ys)∧W.cell? ⟨wr.heap.size,2,none⟩=some (.int .i64 yn)∧W.cell? ⟨wr.heap.size,3,none⟩=some (.slice A' jd c')from by
  have m:=(h.block wr.heap.size (by rw[←hW2];simp)).trans hblk;exact⟨(aj m 0).trans rfl,(aj m 1).trans rfl,(aj m 2).trans rfl,(aj m 3).trans rfl⟩)
 clear hy dR g_ hst iO hzi hss yt I4 hn0 hblk fA hq;go_wp2
 try rw[hW2]
 clear hW2;have hb0:Below W2.heap.size W2 W2.drew:=bq (Below.refl _ _);refine bX (n:=40) (S:=fun w'=>w'.cell? ⟨wr.heap.size,0,none⟩=some (.int .i64 yk)∧w'.cell? ⟨wr.heap.size,1,none⟩=some (.string ys)∧w'.cell? ⟨wr.heap.size,2,none⟩=some (.int .i64 yn)∧w'.cell? ⟨wr.heap.size,3,none⟩=some (.slice A' jd c')) (ds:=[]) #[false,false,false,false,false,false,false,false,false,false,false,false,false,false,false,false,false,false,false,false,false,false,false,false,false,false,false,false,false,false,false,false,false,false,false,false,false,false,false,false] (by kernel_rfl) rfl rfl ⟨(kU.out _ hb0).1,(kU.out _ hb0).2.1,(kU.out _ hb0).2.2.1,(kU.out _ hb0).2.2.2⟩ (fun hHeld=>?_);obtain⟨wd,hwd⟩:∃wd,wd=W2.drew:=⟨_,rfl⟩;rw[←hwd]at hHeld⊢;have B0:=hide (show Below W2.heap.size W2 wd by rw[hwd];exact hb0);clear hwd hb0;refine pv 0 37 ?_;refine tv 1 38 hHeld ?_;refine pv 2 39 ?_;refine pv 3 40 ?_;refine pv 4 41 ?_;refine tv 5 42 hHeld ?_;refine pv 6 43 ?_;refine pv 7 44 ?_;refine pv 8 45 ?_;refine pu 9 46 ?_;refine pu 10 47 ?_;refine pu 11 48 ?_;refine pu 12 49 ?_;exact V_):p:=h
theorem iZ {p:Prop}(h:p:=by
 have H:=sD.out;clear sD;by_cases c3:a0≥97
 ·rw[if_pos c3]at H
  have sS:decide (97≤a0)=true:=decide_eq_true c3;clear c3
  (first|rw[sS]|(simp only[fU,fV];rw[sS])|skip)
  have H':=Aside0.mk H;clear H;go_wp2;go_meet
  case rel=>exact⟨_,(decide (a0≤122)),(by first|rfl|(simp;done)|(simp[*];done)),H',⟨by first|omega|exact Nat.le_refl _⟩,by repeat (first|exact bU.refl _|apply bU.step)⟩
 ·rw[if_neg c3]at H
  have sS:decide (97≤a0)=false:=decide_eq_false c3;clear c3
  (first|rw[sS]|(simp only[fU,fV];rw[sS])|skip)
  have H':=Aside0.mk H;clear H;go_wp2;go_meet
  case rel=>exact⟨_,(false),(by first|rfl|(simp;done)|(simp[*];done)),H',⟨by first|omega|exact Nat.le_refl _⟩,by repeat (first|exact bU.refl _|apply bU.step)⟩):p:=h
theorem Xt {p:Prop}(h:p:=by
 go_simp;constructor
 ·rfl
 ·rfl):p:=h
theorem Wx {p:Prop}(h:p:=by
 obtain rfl:i=len:=by omega
 go_wp2;go_end0;have hq:=Q.out.q;rw[List.take_of_length_le (by rw[HLEN.out];exact Nat.le_refl _)]at hq;exact⟨rfl,Dc.shift HB1.out hq⟩):p:=h
theorem Yf {p:Prop}(h:p:=by
 have q:¬m1.own k:=fun e=>(hown k e).elim h2 (fun e=>by omega);exact⟨fun e=>q (.inl e),fun e=>q (.inr (.inr (.inr (.inr (.inr (.inr (e▸Ww))))))),q⟩):p:=h
theorem Fe {p:Prop}(h:p:=by
 rw[if_pos hok];exact bW rfl HHT.out.2 (fun k hk=>K9 k (by simpa using hty k (.inr hk)) (Kd.vF HHT.out.2 k hk))):p:=h
theorem Zo {p:Prop}(h:p:=by
 rw[if_neg c4]at H;exact absurd H (by simp)):p:=h
theorem Ul {p:Prop}(h:p:=by
 have jL:=hide (fun w2 h1 h2=>J.out.next (w2:=w2) hst h1 h2);have HST:=hide (J.out.stop hst);obtain⟨jd,fA⟩:∃z,yl.length=z:=⟨_,rfl⟩;rw[fA]at k3;obtain⟨W2,hW2⟩:∃W2,wr.alloc (.cells #[.int .i64 yk,.string ys,.int .i64 yn,.slice A' jd c'] 24)=W2:=⟨_,rfl⟩;have hblk:W2.heap[wr.heap.size]?=some (.cells #[.int .i64 yk,.string ys,.int .i64 yn,.slice A' jd c'] 24 (0,0)):=by rw[←hW2];exact aR wr (.cells #[.int .i64 yk,.string ys,.int .i64 yn,.slice A' jd c'] 24)
 have HB2:=hide (show Below wr.heap.size wr W2 from hW2▸au (Below.refl wr.heap.size wr) (.cells #[.int .i64 yk,.string ys,.int .i64 yn,.slice A' jd c'] 24))
 have kU:=hide (fun W (h:Below W2.heap.size W2 W)=>show W.cell? ⟨wr.heap.size,0,none⟩=some (.int .i64 yk)∧W.cell? ⟨wr.heap.size,1,none⟩=some (.string ys)∧W.cell? ⟨wr.heap.size,2,none⟩=some (.int .i64 yn)∧W.cell? ⟨wr.heap.size,3,none⟩=some (.slice A' jd c')from by
  have m:=(h.block wr.heap.size (by rw[←hW2];simp)).trans hblk;exact⟨(aj m 0).trans rfl,(aj m 1).trans rfl,(aj m 2).trans rfl,(aj m 3).trans rfl⟩)
 clear hy dR g_ hst iO hzi hss yt I4 hn0 hblk fA hq;go_wp2
 try rw[hW2]
 clear hW2;have hb0:Below W2.heap.size W2 W2.drew:=bq (Below.refl _ _);refine bX (n:=40) (S:=fun w'=>w'.cell? ⟨wr.heap.size,0,none⟩=some (.int .i64 yk)∧w'.cell? ⟨wr.heap.size,1,none⟩=some (.string ys)∧w'.cell? ⟨wr.heap.size,2,none⟩=some (.int .i64 yn)∧w'.cell? ⟨wr.heap.size,3,none⟩=some (.slice A' jd c')) (ds:=[]) #[false,false,false,false,false,false,false,false,false,false,false,false,false,false,false,false,false,false,false,false,false,false,false,false,false,false,false,false,false,false,false,false,false,false,false,false,false,false,false,false] (by kernel_rfl) rfl rfl ⟨(kU.out _ hb0).1,(kU.out _ hb0).2.1,(kU.out _ hb0).2.2.1,(kU.out _ hb0).2.2.2⟩ (fun hHeld=>?_);obtain⟨wd,hwd⟩:∃wd,wd=W2.drew:=⟨_,rfl⟩;rw[←hwd]at hHeld⊢;have B0:=hide (show Below W2.heap.size W2 wd by rw[hwd];exact hb0);clear hwd hb0;refine pv 0 37 ?_;refine tv 1 38 hHeld ?_;refine pv 2 39 ?_;refine pv 3 40 ?_;refine pu 4 41 ?_;refine pu 5 42 ?_;refine pu 6 43 ?_;refine pv 7 44 ?_;refine pv 8 45 ?_;refine pu 9 46 ?_;refine pu 10 47 ?_;refine pu 11 48 ?_;refine pu 12 49 ?_;exact V_):p:=h
theorem OC {p:Prop}(h:p:=by
 clear H;have H:=H1;clear H1;have H':=Aside0.mk H;clear H;go_wp2;go_meet
 case rel=>exact⟨_,(true),(by first|rfl|(simp;done)|(simp[*];done)),H',⟨by have:=HJ1.out;first|omega|exact Nat.le_refl _⟩,by repeat (first|exact bU.refl _|apply bU.step)⟩):p:=h
theorem VR {p:Prop}(h:p:=by
 rw[hw2]at hmk;have Mf:=hide (hq2 w2 hmk);rw[hw2];clear hmk hw2 hq2;obtain⟨d0,d1,d2,d3⟩:=HSC.out w2 Mf.out
 skip
 exact ac1):p:=h
theorem WX {p:Prop}(h:p:=by
 have hg:=HGL.out;have q:¬bQ m.vs (w.heap.size+1):=fun e=>by have:=H.out.hi _ (.inr (.inr (.inr (.inr (.inr (.inl e))))));omega
 exact dI.out.2.same ((e7 _ (by omega)).trans (Qa.out.block _ (dI.out.2.lt) q))):p:=h
theorem Yg {p:Prop}(h:p:=by
 go_wp2;go_roundg (len-i)
 case measure=>omega
 case rel=>exact⟨i+1,by omega,by omega,by go_num,hide (QN.out _)⟩):p:=h
theorem ZT {p:Prop}(h:p:=by
 rw[if_pos hok];exact bW rfl HHT.out.1 (fun k hk=>K9 k (by simpa using hty k (.inl hk)) (Kd.vF HHT.out.1 k hk))):p:=h
theorem O6 {p:Prop}(h:p:=by
 go_wp2;go_roundg (nu-i)
 case measure=>omega
 case rel=>exact⟨i+1,by omega,by omega,by go_num,Q2⟩):p:=h
theorem VL {p:Prop}(h:p:=by
 obtain rfl:i=len:=by omega
 have QM:=hide (show r=true from by rw[fH.out,J.out.eq,←HE.out];simp only;rw[List.drop_eq_nil_of_le (by rw[HL.out];exact Nat.le_refl _)];rfl);go_wp2;go_ret;exact⟨aI QM.out.symm,J.out.b0⟩):p:=h
theorem Ot {p:Prop}(h:p:=by
 have h1:=E0.out.size;have h2:=Ad.out.size;have h3:=HGL.out;rcases F4.out with q|⟨k,q,hk⟩
 ·exact H.out.qj.2.2.2.2.1 (by unfold bQ at*;rw[←q];exact e)
 ·unfold bQ at e;rw[q]at e;cases e;omega):p:=h
theorem Un {p:Prop}(h:p:=by
 have h1:=Md.out;rw[List.take_of_length_le (by rw[List.length_drop,HL.out];omega)]at h1;exact h1):p:=h
theorem X5 {p:Prop}(h:p:=by
 subst c7;have H1:(some true)=some r:=by rw[if_pos rfl]at H;exact H
 clear H;have H:=H1;clear H1;obtain rfl:=Option.some.inj H;go_wp2;go_ret;exact sU):p:=h
theorem VN {p:Prop}(h:p:=by
 refine(h2.block _ (by simp;omega)).trans ?_;exact(Below.heap_alloc _ _ _ (by simp)).trans (aR w _)):p:=h
theorem YC {p:Prop}(h:p:=by
 rw[←wP];exact Fr.setCell (p:=⟨m.g,4,none⟩) ((Fr.of_below Ad.out).trans Qa.out (fun k e=> .inl (.inr (.inr (.inr (.inr (.inr (.inl e)))))))) (.inl (.inl rfl)) _):p:=h
theorem YB {p:Prop}(h:p:=by
 go_roundg (n-i)
 case measure=>omega
 case rel=>exact⟨i+1,p+q,by omega,by omega,by go_num,by rw[hws],Q2⟩):p:=h
theorem VO {p:Prop}(h:p:=by
 have h2:=Ov.out;simp only[Bool.false_eq_true,if_false]at h2;rw[HKD.out]at h2;rw[h2];exact Rk.shift RB.out hk):p:=h
theorem aac {p:Prop}(h:p:=by
 rw[←wP];exact bT ((Qa.out.block _ (ay Js.out) H.out.qj.2.2.2.2.1).trans Js.out) 4 v1 rfl):p:=h
theorem FY {p q:Prop}(h:q)(k:cB q→p:=by
 intro aW;have b1:W1.cell? ⟨w.heap.size,1,none⟩=some (.string s):=(aj hx1 1).trans rfl;have b2:W1.cell? ⟨w.heap.size,2,none⟩=some (.int .i64 n):=(aj hx1 2).trans rfl;have b3:W1.cell? ⟨w.heap.size,3,none⟩=some (.slice A len c):=(aj hx1 3).trans rfl;have HR:=hide hr;have HB:=hide hb;have HB1:=hide hb1;have gF:=hide hx1;have gK:=hide hf1;have jD:=hide hl1;have gN:=hide hno;have lX:=hide hlc;have jF:=hide hf;revert b1 b2 b3 HR HB HB1 gF gK jD gN lX jF;exact aW.out):p:=k ⟨h⟩
theorem Hz {p q:Prop}(h:q)(k:cB q→p:=by
 intro aW;rw[hr];have H:=hide h;have hblk:(w.alloc (.cells #[.string tn,.int .i64 tk,.int .i64 tp,.int .i64 ti,.bool tc] 43)).heap[w.heap.size]?=some (.cells #[.string tn,.int .i64 tk,.int .i64 tp,.int .i64 ti,.bool tc] 43 (0,0)):=aR w _;obtain⟨W2,hW2⟩:∃W2,w.alloc (.cells #[.string tn,.int .i64 tk,.int .i64 tp,.int .i64 ti,.bool tc] 43)=W2:=⟨_,rfl⟩;rw[hW2]at hblk;have HW2:=hide (show Below w.heap.size w W2 from hW2▸au (Below.refl _ _) _);have dI:=hide hblk;have Dj:=hide ((HW2.out.block _ (h.hi _ (.inl rfl))).trans h.blk);have Dk:=hide (fun(W:World) (hb:Below W2.heap.size W2 W)=>show W.cell? ⟨m.g,2,none⟩=some (m.vu)∧W.cell? ⟨w.heap.size,0,none⟩=some (.string tn)∧W.cell? ⟨w.heap.size,1,none⟩=some (.int .i64 tk)∧W.cell? ⟨w.heap.size,2,none⟩=some (.int .i64 tp)∧W.cell? ⟨w.heap.size,3,none⟩=some (.int .i64 ti)∧W.cell? ⟨w.heap.size,4,none⟩=some (.bool tc)from⟨(aj ((hb.block _ (ay Dj.out)).trans Dj.out) 2).trans rfl,(aj ((hb.block _ (ay dI.out)).trans dI.out) 0).trans rfl,(aj ((hb.block _ (ay dI.out)).trans dI.out) 1).trans rfl,(aj ((hb.block _ (ay dI.out)).trans dI.out) 2).trans rfl,(aj ((hb.block _ (ay dI.out)).trans dI.out) 3).trans rfl,(aj ((hb.block _ (ay dI.out)).trans dI.out) 4).trans rfl⟩);have HD:=hide (show D≤W2.heap.size from Nat.le_trans h.lg (Nat.le_of_lt (ay Dj.out)));obtain⟨d9,d0,d1,d2,d3,d4⟩:=Dk.out W2 (Below.refl _ _);clear hblk;revert H W2 hW2 HW2 dI Dj Dk HD d9 d0 d1 d2 d3 d4;exact aW.out):p:=k ⟨h⟩
theorem jc {p q:Prop}(h:q)(k:cB q→p:=by
 intro aW;obtain⟨len,hlen⟩:∃q,l.length=q:=⟨_,rfl⟩;obtain⟨W1,hW1⟩:∃W1,w.alloc (.cells #[.int .i64 63,.string s,.int .i64 n,.slice (some ad) len c] 24)=W1:=⟨_,rfl⟩;have hb1:Below w.heap.size w W1:=hW1▸au (Below.refl _ _) _;have hx1:W1.heap[w.heap.size]?=some (.cells #[.int .i64 63,.string s,.int .i64 n,.slice (some ad) len c] 24 (0,0)):=hW1▸aR w _;have hf1:=h.below hb1;have hl1:=h.bR hb (Fr.of_below hb1);have b0:W1.cell? ⟨w.heap.size,0,none⟩=some (.int .i64 63):=(aj hx1 0).trans rfl;have b1:W1.cell? ⟨w.heap.size,1,none⟩=some (.string s):=(aj hx1 1).trans rfl;have b2:W1.cell? ⟨w.heap.size,2,none⟩=some (.int .i64 n):=(aj hx1 2).trans rfl;have b3:W1.cell? ⟨w.heap.size,3,none⟩=some (.slice (some ad) len c):=(aj hx1 3).trans rfl;have HR:=hide hr;have HB:=hide hb;have HB1:=hide hb1;have gF:=hide hx1;have gK:=hide hf1;have jD:=hide hl1;have gN:=hide hno;have lX:=hide hlc;have jF:=hide hf;have HLEN:=hide hlen;unfold nd;simp only;rw[hlen];revert len hlen W1 hW1 hb1 hx1 hf1 hl1 b0 b1 b2 b3 HR HB HB1 gF gK jD gN lX jF HLEN;exact aW.out):p:=k ⟨h⟩
theorem l7 {p q:Prop}(h:q)(k:cB q→p:=by
 intro aW;have eY:(i:Int)<(len:Int):=by omega
 obtain⟨y,hy⟩:=eO (l:=l) (i:=i) (by rw[HL.out];exact hlt);revert eY y hy;exact aW.out):p:=k ⟨h⟩
theorem GD {p q:Prop}(h:q)(k:cB q→p:=by
 intro aW;have HB0:=hide (au (Below.refl w.heap.size w) (.cells #[.int .i64 k,.string s,.int .i64 n,.slice A len c] 24));revert HB0;exact aW.out):p:=k ⟨h⟩
theorem OA {p q:Prop}(h:q)(k:cB q→p:=by
 intro aW;obtain⟨wb,hwb⟩:∃wb,wr.alloc (.cells #[.int .i64 y.f0,.string y.f1,.int .i64 y.f2,.slice A' y.f3.length c'] 24)=wb:=⟨_,rfl⟩;rw[hwb];have hbb:Below wr.heap.size wr wb:=hwb▸au (Below.refl _ _) _;have hxb:wb.heap[wr.heap.size]?=some (.cells #[.int .i64 y.f0,.string y.f1,.int .i64 y.f2,.slice A' y.f3.length c'] 24 (0,0)):=hwb▸aR wr _;revert wb hwb hbb hxb;exact aW.out):p:=k ⟨h⟩
theorem Og {p q:Prop}(h:q)(k:cB q→p:=by
 intro aW;rw[List.length_append,List.length_map]at h1 h4;have F1:=hide h1;have F3:=hide h3;have F4:=hide h4;clear h1 h4;have f6:=aQ ((F3.out.block _ (Nat.lt_of_lt_of_le (ay CP.out.blk) E0.out.size) (fun e=>CP.out.qj.2.2.1 e.symm)).trans ((E0.out.block _ (ay CP.out.blk)).trans CP.out.blk)) 2;have e6:=(aj ((F3.out.block _ (Nat.lt_of_lt_of_le (ay CP.out.blk) E0.out.size) (fun e=>CP.out.qj.2.2.1 e.symm)).trans ((E0.out.block _ (ay CP.out.blk)).trans CP.out.blk)) 2).trans rfl;revert F1 F3 F4 f6 e6;exact aW.out):p:=k ⟨h⟩
theorem Xj {p q:Prop}(h:q)(k:cB q→p:=by
 intro aW;rw[List.length_append,List.length_map]at h1 h4;have F1:=hide h1;have F3:=hide h3;have F4:=hide h4;clear h1 h4;have f6:=aQ ((F3.out.block _ (Nat.lt_of_lt_of_le (ay HF.out.blk) E0.out.size) (fun e=>HF.out.qj.2.1 e.symm)).trans ((E0.out.block _ (ay HF.out.blk)).trans HF.out.blk)) 1;have e6:=(aj ((F3.out.block _ (Nat.lt_of_lt_of_le (ay HF.out.blk) E0.out.size) (fun e=>HF.out.qj.2.1 e.symm)).trans ((E0.out.block _ (ay HF.out.blk)).trans HF.out.blk)) 1).trans rfl;revert F1 F3 F4 f6 e6;exact aW.out):p:=k ⟨h⟩
theorem Pj {p q:Prop}(h:q)(k:cB q→p:=by
 intro aW;obtain⟨len,hlen⟩:∃q,l.length=q:=⟨_,rfl⟩;obtain⟨W1,hW1⟩:∃W1,w.alloc (.cells #[.int .i64 62,.string s,.int .i64 n,.slice (some ad) len c] 24)=W1:=⟨_,rfl⟩;have hb1:Below w.heap.size w W1:=hW1▸au (Below.refl _ _) _;have hx1:W1.heap[w.heap.size]?=some (.cells #[.int .i64 62,.string s,.int .i64 n,.slice (some ad) len c] 24 (0,0)):=hW1▸aR w _;have hf1:=h.below hb1;have hl1:=h.bR hb (Fr.of_below hb1);have b0:W1.cell? ⟨w.heap.size,0,none⟩=some (.int .i64 62):=(aj hx1 0).trans rfl;have b1:W1.cell? ⟨w.heap.size,1,none⟩=some (.string s):=(aj hx1 1).trans rfl;have b2:W1.cell? ⟨w.heap.size,2,none⟩=some (.int .i64 n):=(aj hx1 2).trans rfl;have b3:W1.cell? ⟨w.heap.size,3,none⟩=some (.slice (some ad) len c):=(aj hx1 3).trans rfl;have HR:=hide hr;have HB:=hide hb;have HB1:=hide hb1;have gF:=hide hx1;have gK:=hide hf1;have jD:=hide hl1;have gN:=hide hno;have lX:=hide hlc;have jF:=hide hf;have HLEN:=hide hlen;unfold nd;simp only;rw[hlen];revert len hlen W1 hW1 hb1 hx1 hf1 hl1 b0 b1 b2 b3 HR HB HB1 gF gK jD gN lX jF HLEN;exact aW.out):p:=k ⟨h⟩
theorem VI {p q:Prop}(h:q)(k:cB q→p:=by
 intro aW;unfold nd;obtain⟨n,hn⟩:∃n,x.f3.length=n:=⟨_,rfl⟩;have fH:=hide (fun W (h:Rd W x A c)=>show Calls Tryz.prog 7 #[.agg #[.int .i64 x.f0,.string x.f1,.int .i64 x.f2,.slice A n c]] W (DR x W)from by rw[←hn];exact vo hf hb A c W h);have zB:=hide (fun W (h:Rd W x A c)=>show Calls Tryz.prog 8 #[.agg #[.int .i64 x.f0,.string x.f1,.int .i64 x.f2,.slice A n c]] W (zT x W)from by rw[←hn];exact LQ hf hb A c W h);revert n hn fH zB;exact aW.out):p:=k ⟨h⟩
theorem WT {p q:Prop}(h:q)(k:cB q→p:=by
 intro aW;have sD:=hide (fun(W:World) (hb:Fr (bQ m.vs) W3 W)=>show W.cell? ⟨w.heap.size,0,none⟩=some (.pointer (some ⟨m.g,0,none⟩))∧W.cell? ⟨m.g,4,none⟩=some (m.vs)∧W.cell? ⟨w.heap.size+1+1,0,none⟩=some (.map (some (w.heap.size+1)))from⟨(aj (dI.out.1.fr hb (fun e=>by have:=H.out.hi _ (.inr (.inr (.inr (.inr (.inr (.inl e))))));omega) (fun e=>by have:=H.out.hi _ (.inr (.inr (.inr (.inr (.inr (.inl e))))));omega)).f 0).trans rfl,(aj ((hb.block _ (ay Js.out) H.out.qj.2.2.2.2.1).trans Js.out) 4).trans rfl,(aj (dI.out.1.fr hb (fun e=>by have:=H.out.hi _ (.inr (.inr (.inr (.inr (.inr (.inl e))))));omega) (fun e=>by have:=H.out.hi _ (.inr (.inr (.inr (.inr (.inr (.inl e))))));omega)).s 0).trans rfl⟩);have hb0:Below W3.heap.size W3 W3.drew:=bq (Below.refl _ _);revert sD hb0;exact aW.out):p:=k ⟨h⟩
theorem Gp {p q:Prop}(h:q)(k:cB q→p:=by
 intro aW;obtain⟨len,hlen⟩:∃q,l.length=q:=⟨_,rfl⟩;obtain⟨W1,hW1⟩:∃W1,w.alloc (.cells #[.int .i64 18,.string s,.int .i64 n,.slice (some ad) len c] 24)=W1:=⟨_,rfl⟩;have hb1:Below w.heap.size w W1:=hW1▸au (Below.refl _ _) _;have hx1:W1.heap[w.heap.size]?=some (.cells #[.int .i64 18,.string s,.int .i64 n,.slice (some ad) len c] 24 (0,0)):=hW1▸aR w _;have hf1:=h.below hb1;have hl1:=h.bR hb (Fr.of_below hb1);have b0:W1.cell? ⟨w.heap.size,0,none⟩=some (.int .i64 18):=(aj hx1 0).trans rfl;have b1:W1.cell? ⟨w.heap.size,1,none⟩=some (.string s):=(aj hx1 1).trans rfl;have b2:W1.cell? ⟨w.heap.size,2,none⟩=some (.int .i64 n):=(aj hx1 2).trans rfl;have b3:W1.cell? ⟨w.heap.size,3,none⟩=some (.slice (some ad) len c):=(aj hx1 3).trans rfl;have HR:=hide hr;have HB:=hide hb;have HB1:=hide hb1;have gF:=hide hx1;have gK:=hide hf1;have jD:=hide hl1;have gN:=hide hno;have lX:=hide hlc;have jF:=hide hf;have vJ:=hide ha;have HLEN:=hide hlen;revert len hlen W1 hW1 hb1 hx1 hf1 hl1 b0 b1 b2 b3 HR HB HB1 gF gK jD gN lX jF vJ HLEN;exact aW.out):p:=k ⟨h⟩
theorem WJ {p q:Prop}(h:q)(k:cB q→p:=by
 intro aW;have b3:W9.cell? ⟨w.heap.size+1,3,none⟩=some (.string s):=(aj a1 3).trans rfl;have b4:W9.cell? ⟨w.heap.size+1,4,none⟩=some (.bool false):=(aj a1 4).trans rfl;rw[Nc];have Mg:=HRV.out;unfold nT at Mg;rw[hP]at Mg;rw[←Mg];revert b3 b4 Mg;exact aW.out):p:=k ⟨h⟩
theorem UN {p q:Prop}(h:q)(k:cB q→p:=by
 intro aW;obtain⟨nx,hnx⟩:∃k,x.f3.length=k:=⟨_,rfl⟩;obtain⟨W3,hW3⟩:∃W3,((w.alloc (.cells #[.pointer (some ⟨m.g,0,none⟩)] 51)).alloc (.cells #[.int .i64 x.f0,.string x.f1,.int .i64 x.f2,.slice A nx c] 24)).alloc (.cells #[.int .i64 pos] 3)=W3:=⟨_,rfl⟩;have hL3:Below w.heap.size w W3:=hW3▸au (au (au (Below.refl _ _) _) _) _;have hB3:B3 W3 m.g (w.heap.size+1+1) (w.heap.size+1) w.heap.size pos x A c:=by rw[←hW3,←hnx];exact ajf w m.g pos x A c
 have hno:∀k,w.heap.size≤k→¬m.own k:=fun k h1 h2=>by have:=h.hi k h2;omega
 have H0:=hide h;have HF:=hide hf;have HK:=hide hk;have HR:=hide hr;have HB:=hide hb;have vR:=hide hbd;have gN:=hide hno;revert nx hnx W3 hW3 hL3 hB3 hno H0 HF HK HR HB vR gN;exact aW.out):p:=k ⟨h⟩
theorem fu {p q:Prop}(h:q)(k:cB q→p:=by
 intro aW;have HY:=hide hy;have kC:=hide dR;have Jo:=hide g_;have jL:=hide (fun w2 h hb=>Q.out.1.next (w2:=w2) hy h hb);have HST:=hide (Q.out.1.stop hy);rw[HL.out]at jL HST;obtain⟨yk,ys,yn,yl⟩:=y;simp only at k0 k1 k2 k3;have qK:=hide (fun W h=>pF (x:=⟨yk,ys,yn,yl⟩) g_ dR (W2:=W) h);simp only at qK;obtain⟨zk,vO⟩:∃z,(yk != 61)=z:=⟨_,rfl⟩;obtain⟨zn,hzn⟩:∃z,(yn != 0)=z:=⟨_,rfl⟩;obtain⟨zp,iO⟩:∃z,eP ys=!z:=⟨!eP ys,by simp⟩;obtain⟨q,hq⟩:∃q,QR [(.nm,.E)] yl=!q:=⟨!QR [(.nm,.E)] yl,by simp⟩;obtain⟨jd,fA⟩:∃z,yl.length=z:=⟨_,rfl⟩;have Jp:=hide fA;rw[iO]at qK;have HB:=hide (au (Below.refl wr.heap.size wr) (.cells #[.int .i64 yk,.string ys,.int .i64 yn,.slice A' jd c'] 24));revert HY kC Jo jL HST yk ys yn yl k0 k1 k2 k3 zk vO zn hzn zp iO q hq jd fA Jp qK HB;exact aW.out):p:=k ⟨h⟩
theorem V6 {p q:Prop}(h:q)(k:cB q→p:=by
 intro aW;obtain⟨HX,HB,HD⟩:=bx k s n A len c w;revert HX HB HD;exact aW.out):p:=k ⟨h⟩
theorem OG {p q:Prop}(h:q)(k:cB q→p:=by
 intro aW;have p9:0≤(0:Int):=(by omega);have q9:0<a0.size:=(by have:(0:Int)<(a0.size:Int):=of_decide_eq_true (by first|(with_reducible assumption)|assumption);omega);have hx9:∀h:0<a0.size,((a0[0]'h).toNat:Int)=bt a0 0:=DW a0 0;clear p9;have qi9:(0<(a0.size:Int))=True:=eq_true (of_decide_eq_true (by first|(with_reducible assumption)|assumption));revert q9 hx9 qi9;exact aW.out):p:=k ⟨h⟩
theorem Uz {p q:Prop}(h:q)(k:cB q→p:=by
 intro aW;rw[if_neg (by omega),if_neg c4];rw[show(1:Int)=((1:Nat):Int)from rfl,vv _ _ _ _ _ 1 (by decide) (by omega) (by omega) (by omega) (by omega)];exact aW.out):p:=k ⟨h⟩
theorem Vj {p q:Prop}(h:q)(k:cB q→p:=by
 intro aW;have HB:=Aside0.mk (Below.refl w.heap.size w);have H:(some (([(⟨#[112,97,114,115,101]⟩:ByteArray),(⟨#[112,114,105,110,116]⟩:ByteArray),(⟨#[112,117,115,104]⟩:ByteArray),(⟨#[114,101,97,100]⟩:ByteArray),(⟨#[116,101,120,116]⟩:ByteArray)]:List ByteArray)))=some r:=h;revert HB H;exact aW.out):p:=k ⟨h⟩
theorem Vk {p q:Prop}(h:q)(k:cB q→p:=by
 intro aW;have c0:w.cell? ⟨m.g,0,none⟩=some (.map (some m.mt)):=(aj h.blk 0).trans rfl;have sF:=hide (show s.size≤maxLen by unfold maxLen;omega);have yA:=hide h.mt;have HT:=hide (show kS st.aN s=none from by unfold kS;rw[ht];rfl);have H:=hide h;revert c0 sF yA HT H;exact aW.out):p:=k ⟨h⟩
theorem XW {p q:Prop}(h:q)(k:cB q→p:=by
 intro aW;have s0:=h0.size;have s5:=h5.size;have lg:=H.hi _ (.inl rfl);have k6:∀k,k<w.heap.size→¬bQ m.vu k→w6.heap[k]?=w.heap[k]?:=fun k hk hn=>(qx.block k (by omega) (fun e=>hn e.symm)).trans ((h5.block k (by omega)).trans (h0.block k hk));revert s0 s5 lg k6;exact aW.out):p:=k ⟨h⟩
theorem Wd {p q:Prop}(h:q)(k:cB q→p:=by
 intro aW;rw[hpe.1,hpe.2];have h5:(fv==5)=false∧(fv==6)=false:=by unfold jw at hn;rw[Sr]at hn;simpa using hn
 obtain⟨h5,h6⟩:=h5;have h5':(fv != 5)=true:=by simp only[bne,h5];rfl
 have h6':(fv != 6)=true:=by simp only[bne,h6];rfl
 rw[Sr]at CG;revert h5 h6 h5' h6' CG;exact aW.out):p:=k ⟨h⟩
theorem Yh {p q:Prop}(h:q)(k:cB q→p:=by
 intro aW;have KA:0≤(dZ:Int):=of_decide_eq_true (by first|(with_reducible assumption)|assumption);have KD:dZ<(Ae.length:Int):=of_decide_eq_true (by first|(with_reducible assumption)|assumption);obtain⟨Wh,Wi,Gz⟩:=Kd.mO (Kd.gQ oQ.out).2.2 dZ KA KD;revert KA KD Wh Wi Gz;exact aW.out):p:=k ⟨h⟩
theorem UG {p q:Prop}(h:q)(k:cB q→p:=by
 intro aW;have Lb:0≤(dZ:Int):=of_decide_eq_true (by first|(with_reducible assumption)|assumption);have Lc:dZ<(Ag.length:Int):=of_decide_eq_true (by first|(with_reducible assumption)|assumption);obtain⟨Yi,e321,Iq⟩:=Kd.mO (Kd.gQ oQ.out).2.2 dZ Lb Lc;revert Lb Lc Yi e321 Iq;exact aW.out):p:=k ⟨h⟩
theorem Uq {p q:Prop}(h:q)(k:cB q→p:=by
 intro aW;have HC:=hide (fun W (h:Below W2.heap.size W2 W)=>And.intro (ak h c10) (And.intro (ak h c11) (And.intro (ak h c12) (ak h c13))));have hb0:Below W2.heap.size W2 W2.drew:=bq (Below.refl _ _);revert HC hb0;exact aW.out):p:=k ⟨h⟩
theorem Wn {p q:Prop}(h:q)(k:cB q→p:=by
 intro aW;have JL:0≤(jH:Int):=of_decide_eq_true (by first|(with_reducible assumption)|assumption);have JM:jH<(l0.length:Int):=of_decide_eq_true (by first|(with_reducible assumption)|assumption);obtain⟨Ur,e109,Fb⟩:=Kd.mO HR0.out jH JL JM;revert JL JM Ur e109 Fb;exact aW.out):p:=k ⟨h⟩
theorem Uu {p q:Prop}(h:q)(k:cB q→p:=by
 intro aW;have KE:0≤(oP:Int):=of_decide_eq_true (by first|(with_reducible assumption)|assumption);have KG:oP<(l1.length:Int):=of_decide_eq_true (by first|(with_reducible assumption)|assumption);obtain⟨Wo,e185,GA⟩:=Kd.mO HR1.out oP KE KG;revert KE KG Wo e185 GA;exact aW.out):p:=k ⟨h⟩
theorem Zl {p q:Prop}(h:q)(k:cB q→p:=by
 intro aW;have JO:0≤(jH:Int):=of_decide_eq_true (by first|(with_reducible assumption)|assumption);have JR:jH<(l0.length:Int):=of_decide_eq_true (by first|(with_reducible assumption)|assumption);obtain⟨Uv,e138,Fg⟩:=Kd.aeK HR0.out jH JO JR;revert JO JR Uv e138 Fg;exact aW.out):p:=k ⟨h⟩
theorem OL {p q:Prop}(h:q)(k:cB q→p:=by
 intro aW;have fH:=hide (show r=E 0 from by rw[←hres,←hE];simp[yj]);rw[hres];obtain⟨len,hlen⟩:∃len,l.length=len:=⟨_,rfl⟩;have HL:=hide hlen;have hlb:len≤1099511627776:=by rw[←hlen];exact hl
 simp only[hlen]at HC;revert fH len hlen HL hlb HC;exact aW.out):p:=k ⟨h⟩
theorem lD {p q:Prop}(h:q)(k:cB q→p:=by
 intro aW;have hi2:wrap64 ((i:Int)+1)=((i+1:Nat):Int):=by rw[wrap_small (by omega) (by omega)];rfl
 revert hi2;exact aW.out):p:=k ⟨h⟩
theorem mZ {p q:Prop}(h:q)(k:cB q→p:=by
 intro aW;rw[fD]at hpos;have hp0:=hbd.p0;have hp1:=hbd.p1;have qU:=hbd.us;have hlo:=hbd.lc;have htp:=hbd.tp;have hnn:=hbd.nn;rw[hpos]at hp1 qU hlo hnn;have hlo2:st.aT.length+(aM l).length*1048576+1048576≤1099511627776:=by rw[Nat.add_mul,Nat.one_mul,←Nat.add_assoc]at hlo;exact hlo
 have jC:st.uses.length≤1099511627776:=by omega
 have hlo0:st.aT.length≤1099511627776:=by omega
 have hno:¬m.own w.heap.size:=fun k=>by have:=h.hi _ k;omega
 revert hpos hp0 htp hp1 qU hlo hnn hlo2 jC hlo0 hno;exact aW.out):p:=k ⟨h⟩
theorem y7 {p q:Prop}(h:q)(k:cB q→p:=by
 intro aW;rw[fD]at hpos;have hp0:=hbd.p0;have hp1:=hbd.p1;have qU:=hbd.us;have hms:=hbd.ms;rw[hpos]at hp1 qU hms;have qV:m.ms.length≤1099511627776:=by omega
 have jC:st.uses.length≤1099511627776:=by omega
 have hno:¬m.own w.heap.size:=fun k=>by have:=h.hi _ k;omega
 revert hpos hp0 hp1 qU hms qV jC hno;exact aW.out):p:=k ⟨h⟩
theorem IV {p q:Prop}(h:q)(k:cB q→p:=by
 intro aW;have Tz:w2.cell? ⟨w.heap.size,1,none⟩=some (.string s):=(aj hx2 1).trans rfl;have TA:w2.cell? ⟨w.heap.size,2,none⟩=some (.int .i64 n):=(aj hx2 2).trans rfl;have TB:w2.cell? ⟨w.heap.size,3,none⟩=some (.slice (some ad) len c):=(aj hx2 3).trans rfl;have Hl:=hd.bR gK.out jD.out;obtain⟨j0,j1,j2,j3⟩:=oF.out w2 (fun k hk=>Hl.block k hk);simp only[lN]at j0 j1 j2 j3;rw[Xk.out]at j3;revert Tz TA TB Hl j0 j1 j2 j3;exact aW.out):p:=k ⟨h⟩
theorem FU {p q:Prop}(h:q)(k:cB q→p:=by
 intro aW;unfold nd at oF;simp only[List.length_cons,List.length_nil,Nat.zero_add]at HK k3;have HM:=hide (And.intro m0 (And.intro m1 (And.intro m2 m3)));have iI:=hide (fun W (h:Below wr.heap.size wr W)=>And.intro (And.intro (ak h HK.out.1) (And.intro (ak h HK.out.2.1) (And.intro (ak h HK.out.2.2.1) (ak h HK.out.2.2.2)))) (And.intro (ak h HM.out.1) (And.intro (ak h HM.out.2.1) (And.intro (ak h HM.out.2.2.1) (ak h HM.out.2.2.2)))));revert oF HK k3 HM iI;exact aW.out):p:=k ⟨h⟩
theorem Ny {p q:Prop}(h:q)(k:cB q→p:=by
 intro aW;have c0:w.cell? ⟨m.g,0,none⟩=some (.map (some m.mt)):=(aj h.blk 0).trans rfl;have sF:=hide (show s.size≤maxLen by unfold maxLen;omega);have yA:=hide h.mt;have HT:=hide (show kS st.aN s=some (.agg #[.string tn,.int .i64 tk,.int .i64 tp,.int .i64 ti,.bool tc])from by unfold kS;rw[ht];rfl);obtain⟨zd,hzd⟩:∃z,(s.toList==[100,101,102,97,117,108,116])=z:=⟨_,rfl⟩;obtain⟨z46,Kh⟩:∃z,(tk != 46)=z:=⟨_,rfl⟩;obtain⟨z42,Dy⟩:∃z,(tk != 42)=z:=⟨_,rfl⟩;revert c0 sF yA HT zd hzd z46 Kh z42 Dy;exact aW.out):p:=k ⟨h⟩
theorem Zt {p q:Prop}(h:q)(k:cB q→p:=by
 intro aW;have hb2:Below D w0 w2:=sV.out.trans (hq2.fr.below Af.out (by rintro k (rfl|rfl);exact tF.out _ (.inl rfl);exact tF.out _ (.inr (.inr (.inr (.inr (.inr (.inr HBM.out))))))));obtain⟨s,hs⟩:∃s,sz y=s:=⟨_,rfl⟩;have hpp:=hq2.p;have hlen1:=HLEN.out;have hs0:0≤s∧s≤(flat y).length:=by rw[←hs];unfold sz;omega
 have hws:wrap64 (p+s)=p+s:=by unfold wrap64;omega
 have lW:=hide (qQ y (HF.out.kid (bZ iH.out)) (by omega) A' c' w2 (kC.out.kids w2 (fun k hk _=>hb2.block k hk)) kC.out.cap);rw[hs]at lW;revert hb2 s hs hpp hlen1 hs0 hws lW;exact aW.out):p:=k ⟨h⟩
theorem Nu {p q:Prop}(h:q)(k:cB q→p:=by
 intro aW;have iI:=hide (fun W (h:Below wr.heap.size wr W)=>show W.cell? eB=some (.int .i64 t.f0)∧W.cell? ⟨eB.block,eB.off+1,none⟩=some (.string t.f1)∧W.cell? ⟨eB.block,eB.off+2,none⟩=some (.int .i64 t.f2)∧W.cell? ⟨eB.block,eB.off+3,none⟩=some (.slice A2 t.f3.length c2)from⟨(qa.below h).1,(qa.below h).2.1,(qa.below h).2.2.1,(qa.below h).2.2.2⟩);simp only[List.length_cons,List.length_nil,Nat.zero_add]at k3;obtain⟨po,hpo⟩:∃p,gT t=!p:=⟨!(gT t),by simp⟩;have HPO:=hide (fun W=>show Calls Tryz.prog 93 #[nd t A2 c2] W (aH W (!po))from by rw[←hpo];exact oH t A2 c2 W);unfold nd at HPO;obtain⟨pn,hpn⟩:∃p,sP true t=!p:=⟨!(sP true t),by simp⟩;have S9:=hide (fun W=>show Calls Tryz.prog 96 #[nd t A2 c2,.bool true] W (aH W (!pn))from by rw[←hpn];exact zx t (g_.kid (x:=(⟨yk,ys,yn,[t]⟩:Tr)) (by simp)) true A2 c2 W);unfold nd at S9;obtain⟨zq,hzq⟩:∃z,(t.f1.toList==ys.toList)=z:=⟨_,rfl⟩;revert iI k3 po hpo HPO pn hpn S9 zq hzq;exact aW.out):p:=k ⟨h⟩
theorem Zg {p q:Prop}(h:q)(k:cB q→p:=by
 intro aW;obtain⟨n,hn⟩:∃n,x.f3.length=n:=⟨_,rfl⟩;have hnb:n≤2513169434843:=by rw[←hn];exact hf.len
 obtain⟨w1,hw1⟩:∃w1,w.alloc (.cells #[.int .i64 x.f0,.string x.f1,.int .i64 x.f2,.slice A n c] 24)=w1:=⟨_,rfl⟩;have hb1:Below w.heap.size w w1:=hw1▸au (Below.refl _ _) _;have hx1:w1.heap[w.heap.size]?=some (.cells #[.int .i64 x.f0,.string x.f1,.int .i64 x.f2,.slice A n c] 24 (0,0)):=hw1▸aR w _;revert n hn hnb w1 hw1 hb1 hx1;exact aW.out):p:=k ⟨h⟩
theorem Om {p q:Prop}(h:q)(k:cB q→p:=by
 intro aW;unfold nd at HB;have iI:=hide (fun W (h:Below wr.heap.size wr W)=>show W.cell? eB=some (.int .i64 a.f0)∧W.cell? ⟨eB.block,eB.off+1,none⟩=some (.string a.f1)∧W.cell? ⟨eB.block,eB.off+2,none⟩=some (.int .i64 a.f2)∧W.cell? ⟨eB.block,eB.off+3,none⟩=some (.slice A2 a.f3.length c2)∧W.cell? ⟨eB.block,eB.off+4,none⟩=some (.int .i64 b.f0)∧W.cell? ⟨eB.block,eB.off+4+1,none⟩=some (.string b.f1)∧W.cell? ⟨eB.block,eB.off+4+2,none⟩=some (.int .i64 b.f2)∧W.cell? ⟨eB.block,eB.off+4+3,none⟩=some (.slice A3 b.f3.length c3)from⟨(qa.below h).1,(qa.below h).2.1,(qa.below h).2.2.1,(qa.below h).2.2.2,(qb.below h).1,(qb.below h).2.1,(qb.below h).2.2.1,(qb.below h).2.2.2⟩);simp only[List.length_cons,List.length_nil,Nat.zero_add]at k3;revert HB iI k3;exact aW.out):p:=k ⟨h⟩
theorem Gn {p q:Prop}(h:q)(k:cB q→p:=by
 intro aW;rw[hk]at b0;have hhl:holds y=true:=by unfold holds;rw[hk];rfl
 have HHL:=hide hhl;obtain⟨B,L,cl,hvl⟩:∃B L cl,m1.vl= .slice B L cl:=by obtain⟨A,c,e,-⟩:=Kd.bL HFB.out.vl;exact⟨_,_,_,e⟩
 have hL:s1.aT.length=L:=(HFB.out.C_l hvl).2;have Dt:=hide hvl;have HL:=hide hL;have hLb:L≤1099511627776:=by rw[←hL];exact HLE.out.1
 have hfL:kE≤L:=by rw[←hL];exact HLE.out.2.2
 have HKD:=hide hk;clear hhl hvl hL;revert b0 HHL B L cl Dt HL hLb hfL HKD;exact aW.out):p:=k ⟨h⟩
theorem I7 {p q:Prop}(h:q)(k:cB q→p:=by
 intro aW;have hfr:Below w.heap.size w W9:=by rw[←Nc];exact hq4.trans (iK (by omega) _)
 have a1:=(kp _ (by omega)).trans hq1;have a2:W9.cell? ⟨w.heap.size+1+1,0,none⟩=some (.bool true):=(aj ((kp _ (by omega)).trans hq2) 0).trans rfl;revert hfr a1 a2;exact aW.out):p:=k ⟨h⟩
theorem Jh {p q:Prop}(h:q)(k:cB q→p:=by
 intro aW;have HY:=hide (IH.out y (List.mem_of_getElem? hy) A' c' wr dR);obtain⟨p,hp⟩:∃p,l9 y=p:=⟨_,rfl⟩;have HE:=hide (show gM (l.drop i)=(p||gM (l.drop (i+1)))from by rw[←hp];exact Ta hy);rw[hp]at HY;unfold nd at HY;clear hp;revert p HE HY;exact aW.out):p:=k ⟨h⟩
theorem VJ {p q:Prop}(h:q)(k:cB q→p:=by
 intro aW;obtain⟨W1,hW1⟩:∃W,w.alloc (.cells #[.int .i64 x.f0,.string x.f1,.int .i64 x.f2,.slice A n c] 24)=W:=⟨_,rfl⟩;have B1:=hide (show Below w.heap.size w W1 from by rw[←hW1];exact au (Below.refl _ _) _);revert W1 hW1 B1;exact aW.out):p:=k ⟨h⟩
theorem YS {p q:Prop}(h:q)(k:cB q→p:=by
 intro aW;rw[show(m.row++[[Value.map (some (w.heap.size+1))]]).length=m.ms.length+1 from by unfold FM.row;simp]at h1 h4;have F1:=hide h1;have F3:=hide h3;have F4:=hide h4;clear h1 h4;have f6:=aQ ((F3.out.block _ (Nat.lt_of_lt_of_le (ay Js.out) E0.out.size) (fun e=>H.out.qj.2.2.2.2.1 e.symm)).trans ((E0.out.block _ (ay Js.out)).trans Js.out)) 4;have e6:=(aj ((F3.out.block _ (Nat.lt_of_lt_of_le (ay Js.out) E0.out.size) (fun e=>H.out.qj.2.2.2.2.1 e.symm)).trans ((E0.out.block _ (ay Js.out)).trans Js.out)) 4).trans rfl;have Qa:=hide ((Fr.of_below (S:=bQ m.vs) E0.out).grown F3.out (fun k e=> .inl e));revert F1 F3 F4 f6 e6 Qa;exact aW.out):p:=k ⟨h⟩
theorem U0 {p q:Prop}(h:q)(k:cB q→p:=by
 intro aW;have xX:w2.heap[wr.heap.size]?=some (.cells #[.int .i64 y.f0,.string y.f1,.int .i64 y.f2,.slice (some eB) yn c'] 24 (0,0)):=(hq.fr.block _ (by simp) jL.out).trans (aR wr _);have hb3:=hq.bR (II.out.below IL.out) (II.out.bR sV.out (Fr.of_below IL.out));have j5:=(hq.fr.block _ (by have:=ay Q.out.box;simp;omega) G8.out).trans ((Below.heap_alloc _ _ _ (ay Q.out.box)).trans Q.out.box);have lW:=hide (mY y Jo.out Jp.out (some eB) c' w2 (kC.out.kids w2 (fun k hk _=>hb3.block k hk)) kC.out.cap);rw[HS.out]at lW;unfold nd at lW;rw[HYN.out]at lW;revert xX hb3 j5 lW;exact aW.out):p:=k ⟨h⟩
theorem Od {p q:Prop}(h:q)(k:cB q→p:=by
 intro aW;have HY:=hide hy;have kC:=hide dR;have Jo:=hide g_;have jL:=hide (fun w2 h hb=>Q.out.1.next (w2:=w2) hy h hb);have HST:=hide (Q.out.1.stop hy);obtain⟨yk,ys,yn,yl⟩:=y;simp only at k0 k1 k2 k3;have qK:=hide (fun W h=>pF (x:=⟨yk,ys,yn,yl⟩) g_ dR (W2:=W) h);have FE:=hide (fun W h=>vN (x:=⟨yk,ys,yn,yl⟩) g_ dR (W2:=W) h);simp only at qK FE;obtain⟨zk,vO⟩:∃z,(yk != 65)=z:=⟨_,rfl⟩;obtain⟨zn,hzn⟩:∃z,(yn != 0)=z:=⟨_,rfl⟩;obtain⟨zp,iO⟩:∃z,eP ys=!z:=⟨!eP ys,by simp⟩;obtain⟨zi,hzi⟩:∃z,nH ys=!z:=⟨!nH ys,by simp⟩;obtain⟨zs,hzs⟩:∃z,(ys.toList==[42])=z:=⟨_,rfl⟩;obtain⟨zt,Ec⟩:∃z,toB ys yl=z:=⟨_,rfl⟩;rw[iO]at qK;rw[hzi]at FE;revert HY kC Jo jL HST yk ys yn yl k0 k1 k2 k3 zk vO zn hzn zp iO zi hzi zs hzs zt Ec qK FE;exact aW.out):p:=k ⟨h⟩
theorem W_ {p q:Prop}(h:q)(k:cB q→p:=by
 intro aW;have hkn:(k:Int)<(n:Int):=by have:=(List.getElem?_eq_some_iff.1 hk).1;omega
 have hk0:(0:Int)≤(k:Int):=by omega
 have c0:w2.cell? ⟨m.g,0,none⟩=some (.slice (some ad) n c):=by rw[←Yr.out];exact(aj hf2.blk 0).trans rfl
 revert hkn hk0 c0;exact aW.out):p:=k ⟨h⟩
theorem Xe {p q:Prop}(h:q)(k:cB q→p:=by
 intro aW;obtain⟨len,hlen⟩:∃q,l.length=q:=⟨_,rfl⟩;obtain⟨W1,hW1⟩:∃W1,w.alloc (.cells #[.int .i64 40,.string s,.int .i64 n,.slice A len c] 24)=W1:=⟨_,rfl⟩;have hb1:Below w.heap.size w W1:=hW1▸au (Below.refl _ _) _;have hx1:W1.heap[w.heap.size]?=some (.cells #[.int .i64 40,.string s,.int .i64 n,.slice A len c] 24 (0,0)):=hW1▸aR w _;have hf1:=h.below hb1;have hl1:=h.bR hb (Fr.of_below hb1);have b0:W1.cell? ⟨w.heap.size,0,none⟩=some (.int .i64 40):=(aj hx1 0).trans rfl;revert len hlen W1 hW1 hb1 hx1 hf1 hl1 b0;exact aW.out):p:=k ⟨h⟩
theorem Xg {p q:Prop}(h:q)(k:cB q→p:=by
 intro aW;obtain⟨len,hlen⟩:∃q,l.length=q:=⟨_,rfl⟩;obtain⟨W1,hW1⟩:∃W1,w.alloc (.cells #[.int .i64 46,.string s,.int .i64 n,.slice A len c] 24)=W1:=⟨_,rfl⟩;have hb1:Below w.heap.size w W1:=hW1▸au (Below.refl _ _) _;have hx1:W1.heap[w.heap.size]?=some (.cells #[.int .i64 46,.string s,.int .i64 n,.slice A len c] 24 (0,0)):=hW1▸aR w _;have hf1:=h.below hb1;have hl1:=h.bR hb (Fr.of_below hb1);have b0:W1.cell? ⟨w.heap.size,0,none⟩=some (.int .i64 46):=(aj hx1 0).trans rfl;revert len hlen W1 hW1 hb1 hx1 hf1 hl1 b0;exact aW.out):p:=k ⟨h⟩
theorem UO {p q:Prop}(h:q)(k:cB q→p:=by
 intro aW;obtain⟨len,hlen⟩:∃q,l.length=q:=⟨_,rfl⟩;obtain⟨W1,hW1⟩:∃W1,w.alloc (.cells #[.int .i64 66,.string s,.int .i64 n,.slice A len c] 24)=W1:=⟨_,rfl⟩;have hb1:Below w.heap.size w W1:=hW1▸au (Below.refl _ _) _;have hx1:W1.heap[w.heap.size]?=some (.cells #[.int .i64 66,.string s,.int .i64 n,.slice A len c] 24 (0,0)):=hW1▸aR w _;have hf1:=h.below hb1;have hl1:=h.bR hb (Fr.of_below hb1);have b0:W1.cell? ⟨w.heap.size,0,none⟩=some (.int .i64 66):=(aj hx1 0).trans rfl;revert len hlen W1 hW1 hb1 hx1 hf1 hl1 b0;exact aW.out):p:=k ⟨h⟩
theorem Xq {p q:Prop}(h:q)(k:cB q→p:=by
 intro aW;have zs:(ys.toList==[42])=true:=by simpa using hstar
 have Aa:pG ys=true:=zs;obtain⟨z2,hz2⟩:∃z,((i:Int) != (len:Int)-1)=z:=⟨_,rfl⟩;obtain⟨z3,hz3⟩:∃z,decide (1<i)=z:=⟨_,rfl⟩;obtain⟨z4,hz4⟩:∃z,((i:Int)==1)=z:=⟨_,rfl⟩;obtain⟨z5,hz5⟩:∃z,(fs.toList==[100,101,102,97,117,108,116])=!z:=⟨!(fs.toList==[100,101,102,97,117,108,116]),by simp⟩;have J5:decide ((1:Int)<(i:Int))=z3:=by rw[←hz3,Bool.eq_iff_iff];simp only[decide_eq_true_eq];omega
 revert zs Aa z2 hz2 z3 hz3 z4 hz4 z5 hz5 J5;exact aW.out):p:=k ⟨h⟩
theorem Im {p q:Prop}(h:q)(k:cB q→p:=by
 intro aW;have iH:=hide hy;have NK:=hide Ju;have g_:=jF.out.kid (y:=y) hym;have hsy:t.f1.size≤1099511627776:=(g_.kid (y:=t) (by rw[Ju];simp)).str;have abD:y.f1.size≤1099511627776:=g_.str;have hfl:=HLL.out;have hle:=HLEN.out;have hw1:wrap64 (pos+1)=pos+1:=by unfold wrap64;omega
 have hw2:wrap64 (2*(i:Int))=2*(i:Int):=by unfold wrap64;omega
 have hw3:wrap64 (pos+1+2*(i:Int))=pos+1+2*(i:Int):=by unfold wrap64;omega
 obtain⟨v1,hf1,hu1⟩:=Q.out.q.fin;have htk:(l.take i).length=i:=by rw[List.length_take];omega
 revert iH NK g_ hsy abD hfl hle hw1 hw2 hw3 v1 hf1 hu1 htk;exact aW.out):p:=k ⟨h⟩
theorem Xw {p q:Prop}(h:q)(k:cB q→p:=by
 intro aW;rw[hw];rw[hw]at hB hF;have HFX:=hide hF;have dI:=hide hB;clear hB hF;have FX:=hide ((Fr.of_below (S:=fun k=>k=w.heap.size+1) B0.out).trans HFX.out (fun k e=> .inl e));revert HFX dI FX;exact aW.out):p:=k ⟨h⟩
theorem nJ {p q:Prop}(h:q)(k:cB q→p:=by
 intro aW;have q40:(k==40)=false:=by simpa using Dq
 have WS:(k==41)=false:=by simpa using lU
 have q42:(k==42)=false:=by simpa using lV
 have q46:(k==46)=false:=by simpa using h46
 have q66:(k==66)=false:=by simpa using h66
 have q62:(k==62)=false:=by simpa using Qn
 have q63:(k==63)=false:=by simpa using h63
 have q60:(k==60)=false:=by simpa using mh
 have q64:(k==64)=false:=by simpa using h64
 revert q40 WS q42 q46 q66 q62 q63 q60 q64;exact aW.out):p:=k ⟨h⟩
theorem Zz {p q:Prop}(h:q)(k:cB q→p:=by
 intro aW;have HB:=Aside0.mk (Below.refl w.heap.size w);revert HB;exact aW.out):p:=k ⟨h⟩
theorem XY {p q:Prop}(h:q)(k:cB q→p:=by
 intro aW;have jL:=hide (fun w2 h1 h2=>J.out.next (w2:=w2) hy h1 h2);have HST:=hide (J.out.stop hy);have HK:=hide (fun W (h:Below wr.heap.size wr W)=>And.intro (ak h k0) (And.intro (ak h k1) (And.intro (ak h k2) (ak h k3))));revert jL HST HK;exact aW.out):p:=k ⟨h⟩
theorem Xa {p q:Prop}(h:q)(k:cB q→p:=by
 intro aW;have HB:=hide hB;have hlow:Below w.heap.size w w2:=(au (au (Below.refl _ _) _) _).trans (h2.mono (by simp;omega));have HL:=hide (hlow.trans (hF.below (B:=w.heap.size) hlow.size (by rintro k rfl;omega)));revert HB hlow HL;exact aW.out):p:=k ⟨h⟩
theorem Xb {p q:Prop}(h:q)(k:cB q→p:=by
 intro aW;have hss:=hf.str;simp only at hss;have hpos:=iL ⟨41,s,n,l⟩;have hfe:(flat ⟨41,s,n,l⟩).length=(aM l).length+1:=bC ⟨41,s,n,l⟩;simp only at hpos;have hp0:=hbd.p0;have hp1:=hbd.p1;have htp:=hbd.aN;revert hss hfe hpos hp0 hp1 htp;exact aW.out):p:=k ⟨h⟩
theorem UK {p q:Prop}(h:q)(k:cB q→p:=by
 intro aW;have hss:=hf.str;simp only at hss;have hpos:=iL ⟨42,s,n,l⟩;have hfe:(flat ⟨42,s,n,l⟩).length=(aM l).length+1:=bC ⟨42,s,n,l⟩;simp only at hpos;have hp0:=hbd.p0;have hp1:=hbd.p1;have htp:=hbd.aN;revert hss hfe hpos hp0 hp1 htp;exact aW.out):p:=k ⟨h⟩
theorem dW {p q:Prop}(h:q)(k:cB q→p:=by
 intro aW;obtain⟨zs,hz1,hz2⟩:=Q.out.row;have hzl:zs.length≤i:=by rw[hz2.len];exact Nat.le_trans (List.length_filter_le _ _) (List.length_take_le _ _)
 have HD:=hide (Q.out.below.trans (HB3.out.mono Q.out.below.size));revert zs hz1 hz2 hzl HD;exact aW.out):p:=k ⟨h⟩
theorem F9 {p q:Prop}(h:q)(k:cB q→p:=by
 intro aW;have hb1:Below w.heap.size w W1:=hW1▸au (Below.refl _ _) _;revert hb1;exact aW.out):p:=k ⟨h⟩
theorem o7 {p q:Prop}(h:q)(k:cB q→p:=by
 intro aW;have F1:=hide h1;have F3:=hide h3;have F4:=hide h4;have f6:=aQ ((F3.out.block _ (Nat.lt_of_lt_of_le (ay Dj.out) E0.out.size) (fun e=>H.out.qj.2.2.2.1 e.symm)).trans ((E0.out.block _ (ay Dj.out)).trans Dj.out)) 2;have e6:=(aj ((F3.out.block _ (Nat.lt_of_lt_of_le (ay Dj.out) E0.out.size) (fun e=>H.out.qj.2.2.2.1 e.symm)).trans ((E0.out.block _ (ay Dj.out)).trans Dj.out)) 2).trans rfl;revert F1 F3 F4 f6 e6;exact aW.out):p:=k ⟨h⟩
theorem uj {p q:Prop}(h:q)(k:cB q→p:=by
 intro aW;obtain⟨len,hlen⟩:∃len,l.length=len:=⟨_,rfl⟩;have HL:=hide hlen;have hlb:len≤1099511627776:=by rw[←hlen];exact hl
 revert len hlen HL hlb;exact aW.out):p:=k ⟨h⟩
theorem WU {p q:Prop}(h:q)(k:cB q→p:=by
 intro aW;have eY:(i:Int)<(n:Int):=by omega
 obtain⟨y,hy⟩:=eO (l:=x.f3) (i:=i) (by rw[HN.out];exact hlt);revert eY y hy;exact aW.out):p:=k ⟨h⟩
theorem Ho {p q:Prop}(h:q)(k:cB q→p:=by
 intro aW;have hb3:Below W1.heap.size W1 w3:=(au (Below.refl _ _) _).trans (h3.mono (by simp));have hx3:=(hb3.block _ (ay gF.out)).trans gF.out;have HB3:=hide hb3;rw[HV.out];have Tx:∀o,(w3.alloc o).cell? ⟨w.heap.size,0,none⟩=some (.int .i64 18):=fun o=>bY o ((aj hx3 0).trans rfl);have Tz:∀o,(w3.alloc o).cell? ⟨w.heap.size,1,none⟩=some (.string s):=fun o=>bY o ((aj hx3 1).trans rfl);have TA:∀o,(w3.alloc o).cell? ⟨w.heap.size,2,none⟩=some (.int .i64 n):=fun o=>bY o ((aj hx3 2).trans rfl);have TB:∀o,(w3.alloc o).cell? ⟨w.heap.size,3,none⟩=some (.slice (some ad) len c):=fun o=>bY o ((aj hx3 3).trans rfl);revert hb3 hx3 HB3 Tx Tz TA TB;exact aW.out):p:=k ⟨h⟩
theorem zA {p q:Prop}(h:q)(k:cB q→p:=by
 intro aW;have hss:=hf.str;simp only at hss;have hpos:=iL ⟨63,s,n,l⟩;have hfe:(flat ⟨63,s,n,l⟩).length=(aM l).length+1:=bC ⟨63,s,n,l⟩;simp only at hpos;have hp0:=hbd.p0;have hp1:=hbd.p1;have htp:=hbd.aN;revert hss hfe hpos hp0 hp1 htp;exact aW.out):p:=k ⟨h⟩
theorem VU {p q:Prop}(h:q)(k:cB q→p:=by
 intro aW;obtain⟨len,hlen⟩:∃len,l.length=len:=⟨_,rfl⟩;have HL:=hide hlen;have hlb:len≤1099511627776:=by rw[←hlen];exact hf.len2
 revert len hlen HL hlb;exact aW.out):p:=k ⟨h⟩
theorem Ou {p q:Prop}(h:q)(k:cB q→p:=by
 intro aW;have hs3:=P_.out;have hse:=E0.out.size;have hlow:=H.out.hi;have hdo:=HDO.out W7 {m with vs:=v1,ms:=m.ms++[w.heap.size+1]} (w.heap.size+1) (w.heap.size+2) w.heap.size hfin rfl rfl (fun k hk=>(how k hk).imp id (fun q=>by omega)) (fun hk=>by rcases how _ hk with q|q|q;have:=hlow _ q;omega;omega;omega) (fun hk=>by rcases how _ hk with q|q|q;have:=hlow _ q;omega;omega;omega) Nk hF7;have abk:=hide hdo;have VW:=hide how;have Nl:=hide hF7;have Nn:=hide Nk;have HV:=hide F4.out;have d0:W7.cell? ⟨w.heap.size,0,none⟩=some (.pointer (some ⟨m.g,0,none⟩)):=(aj Nk.f 0).trans rfl;clear hdo hs3 hse hlow;revert abk VW Nl Nn HV d0;exact aW.out):p:=k ⟨h⟩
theorem Da {p q:Prop}(h:q)(k:cB q→p:=by
 intro aW;have abX:=hide hfin;have Ov:=hide (show s2=if th=true then s1.fail p 90 else {s1 with aT:=s1.aT++[⟨y.f1,p,y.f0==13||(y.f0==40&&y.f2==0)⟩]}from by rw[←HS2.out];unfold mD;rw[if_pos HHL.out,hfin]);have hnlt:¬((t:Int)<(L:Int)):=by omega
 revert abX Ov hnlt;exact aW.out):p:=k ⟨h⟩
theorem FH {p q:Prop}(h:q)(k:cB q→p:=by
 intro aW;have x0:=fun o=>bY o q0;have x1:=fun o=>bY o q1;have x2:=fun o=>bY o q2;have x3:=fun o=>bY o q3;revert x0 x1 x2 x3;exact aW.out):p:=k ⟨h⟩
theorem Vy {p q:Prop}(h:q)(k:cB q→p:=by
 intro aW;have HV:=hide (fun W (h:Below w.heap.size w W)=>aK hv (qG s W (by have:=hf.str;simp only at this;omega) (hr.below h).tab));revert HV;exact aW.out):p:=k ⟨h⟩
theorem Xi {p q:Prop}(h:q)(k:cB q→p:=by
 intro aW;have hP:=HP.out;have hd1:W8.heap[D2]?=some (.deferred (some [])):=(K7.out.fr.block _ (ay HD3.out) (by have:=HD2.out;omega)).trans HD3.out;have hq1:=K7.out.b1;have hq2:=K7.out.b2;have hq3:=K7.out.b3;have hq4:Below w.heap.size w W8:=pq.out.low.trans (K7.out.fr.below pq.out.low.size (by rintro k (rfl|rfl|rfl)<;>omega));have hq5:=HD2.out;simp only[if_true,if_false,Bool.false_eq_true]at hP;revert hd1 hq1 hq2 hq3 hq4 hq5 hP;exact aW.out):p:=k ⟨h⟩
theorem Iw {p q:Prop}(h:q)(k:cB q→p:=by
 intro aW;have hno:¬m.own w.heap.size:=fun k=>by have:=h.hi _ k;omega
 obtain⟨t,hl,htk⟩:=hlc.exp rfl;simp only at hl;have yX:t.f0=40∨t.f0=41∨t.f0=42∨t.f0=46∨t.f0=66:=by omega
 have hk0:(⟨62,s,n,l⟩:Tr).f3[0]?=some t:=by simp only;rw[hl];rfl
 revert hno t htk hl yX hk0;exact aW.out):p:=k ⟨h⟩
theorem WZ {p q:Prop}(h:q)(k:cB q→p:=by
 intro aW;have Af:=hide (show D≤w.heap.size from Nat.le_trans h.lg (Nat.le_of_lt (ay h.blk)));revert Af;exact aW.out):p:=k ⟨h⟩
theorem Xc {p q:Prop}(h:q)(k:cB q→p:=by
 intro aW;have hss:=hf.str;simp only at hss;have hpos:=iL ⟨40,s,n,l⟩;have hfe:(flat ⟨40,s,n,l⟩).length=(aM l).length+1:=bC ⟨40,s,n,l⟩;simp only at hpos;have hp0:=hbd.p0;have hp1:=hbd.p1;have htp:=hbd.aN;revert hss hfe hpos hp0 hp1 htp;exact aW.out):p:=k ⟨h⟩
theorem Xf {p q:Prop}(h:q)(k:cB q→p:=by
 intro aW;have hss:=hf.str;simp only at hss;have hpos:=iL ⟨46,s,n,l⟩;have hfe:(flat ⟨46,s,n,l⟩).length=(aM l).length+1:=bC ⟨46,s,n,l⟩;simp only at hpos;have hp0:=hbd.p0;have hp1:=hbd.p1;have htp:=hbd.aN;revert hss hfe hpos hp0 hp1 htp;exact aW.out):p:=k ⟨h⟩
theorem eu {p q:Prop}(h:q)(k:cB q→p:=by
 intro aW;have hss:=hf.str;simp only at hss;have hpos:=iL ⟨66,s,n,l⟩;have hfe:(flat ⟨66,s,n,l⟩).length=(aM l).length+1:=bC ⟨66,s,n,l⟩;simp only at hpos;have hp0:=hbd.p0;have hp1:=hbd.p1;have htp:=hbd.aN;revert hss hfe hpos hp0 hp1 htp;exact aW.out):p:=k ⟨h⟩
theorem OQ {p q:Prop}(h:q)(k:cB q→p:=by
 intro aW;have hf1:=h.below hb1;have hl1:=h.bR hb (Fr.of_below hb1);revert hf1 hl1;exact aW.out):p:=k ⟨h⟩
theorem Zn {p q:Prop}(h:q)(k:cB q→p:=by
 intro aW;obtain⟨n5,Ah⟩:∃n5,(texts (l.take i)).length=n5:=⟨_,rfl⟩;have Y8:n5≤i:=by rw[←Ah];unfold texts;rw[List.length_map];exact List.length_take_le _ _
 have xV:=hide (fun W (h:Below wr.heap.size wr W)=>IU (texts (l.take i)) y.f1 (by omega) A5 c5 El W (kL Cg h));have g_:=qm.out y (List.mem_of_getElem? hy);have HY:=hide hy;have SN:=hide Ah;have jL:=hide (fun w2 v6 h1 h2=>J.out.next (w2:=w2) (v6:=v6) hy h1 h2);have sO:=hide (NQ.Y6 (w:=w) (w0:=w) (wr:=w) (P:=P) (v5:= .slice none 0 0) hy);have HSN:=hide (NQ.Y7 (P:=P) hy);revert n5 Ah Y8 xV g_ HY SN jL sO HSN;exact aW.out):p:=k ⟨h⟩
theorem WE {p q:Prop}(h:q)(k:cB q→p:=by
 intro aW;obtain⟨zk,vO⟩:∃z,(yk != 65)=z:=⟨_,rfl⟩;obtain⟨zn,hzn⟩:∃z,(yn != 0)=z:=⟨_,rfl⟩;obtain⟨zp,iO⟩:∃z,eP ys=!z:=⟨!eP ys,by simp⟩;have Mj:=hide (fun W=>m_ ys (by have:=g_.str;simp only at this;omega) W);rw[iO]at Mj;obtain⟨zi,hzi⟩:∃z,nH ys=!z:=⟨!nH ys,by simp⟩;have EG:=hide (fun W=>jy ys (by have:=g_.str;simp only at this;omega) W);rw[hzi]at EG;obtain⟨zs,hzs⟩:∃z,(ys.toList==[42])=z:=⟨_,rfl⟩;have hss:pG ys=zs:=hzs;obtain⟨z6,hz6⟩:∃z,decide ((1:Int)<(len:Int))=z:=⟨_,rfl⟩;have yt:decide (1<len)=z6:=by rw[←hz6,Bool.eq_iff_iff];simp only[decide_eq_true_eq];omega
 have I4:(yk==65)=!zk:=by rw[←vO];simp[bne]
 have hn0:(yn==0)=!zn:=by rw[←hzn];simp[bne]
 revert zk vO zn hzn zp iO Mj zi hzi EG zs hzs hss z6 hz6 yt I4 hn0;exact aW.out):p:=k ⟨h⟩
theorem FW {p q:Prop}(h:q)(k:cB q→p:=by
 intro aW;have hq:=Q.out;rw[List.take_of_length_le (by rw[HN.out];exact Nat.le_refl _)]at hq;have e0:wr.cell? ⟨ba,0,none⟩=some (.int .i64 pos):=(aj hq.b3.a 0).trans rfl;have eg:wr.cell? ⟨bg,0,none⟩=some (.pointer (some ⟨m1.g,0,none⟩)):=(aj hq.b3.g 0).trans rfl;have n0:wr.cell? ⟨bn,0,none⟩=some (.int .i64 x.f0):=(aj hq.b3.n 0).trans rfl;have n1:wr.cell? ⟨bn,1,none⟩=some (.string x.f1):=(aj hq.b3.n 1).trans rfl;have n2:wr.cell? ⟨bn,2,none⟩=some (.int .i64 x.f2):=(aj hq.b3.n 2).trans rfl;revert hq e0 eg n0 n1 n2;exact aW.out):p:=k ⟨h⟩
theorem Nv {p q:Prop}(h:q)(k:cB q→p:=by
 intro aW;rw[←hr,←hzd,←Kh,←Dy,hsd];unfold PS.only;rw[ht];simp only[uE];have vP:=hk;simp only[beq_iff_eq,beq_eq_false_iff_ne]at vP;simp only[vP,if_true,if_false];revert vP;exact aW.out):p:=k ⟨h⟩
theorem H7 {p q:Prop}(h:q)(k:cB q→p:=by
 intro aW;have HF:=hide hf;have HR:=hide hr;have HN:=hide hn;have vR:=hide hbd;have gK:=hide (h.below hb1);have HB1:=hide (h.bR hb (Fr.of_below hb1));have dI:=hide (show w.heap.size<w1.heap.size∧¬m.own w.heap.size from⟨ay hx1,fun k=>by have:=h.hi _ k;omega⟩);have HW1:=hide hb1;revert HF HR HN vR gK HB1 dI HW1;exact aW.out):p:=k ⟨h⟩
theorem Oo {p q:Prop}(h:q)(k:cB q→p:=by
 intro aW;obtain⟨an,han⟩:∃q,t.f3.length=q:=⟨_,rfl⟩;have Xk:=hide han;obtain⟨z41,lU⟩:∃z,(t.f0==41)=z:=⟨_,rfl⟩;obtain⟨z42,lV⟩:∃z,(t.f0==42)=z:=⟨_,rfl⟩;revert an han Xk z41 lU z42 lV;exact aW.out):p:=k ⟨h⟩
theorem VF {p q:Prop}(h:q)(k:cB q→p:=by
 intro aW;have Oq:=HFB.out.below RB.out;have CP:=hide Oq;have AO:=hide ((RB.out.block _ (ay HXB.out)).trans HXB.out);have c2:wq.cell? ⟨m1.g,2,none⟩=some (.slice B L cl):=by rw[←Dt.out];exact(aj Oq.blk 2).trans rfl
 revert Oq CP AO c2;exact aW.out):p:=k ⟨h⟩
theorem MW {p q:Prop}(h:q)(k:cB q→p:=by
 intro aW;have hmm:=@run_makeMap Tryz.prog;have H:=hide h;have HDO:=hide hdo;obtain⟨W3,hW3⟩:∃W3,((w.alloc (.cells #[.pointer (some ⟨m.g,0,none⟩)] 51)).alloc (.map #[] 0)).alloc (.cells #[.map (some (w.heap.size+1))] 97)=W3:=⟨_,rfl⟩;have Ad:=hide (show Below w.heap.size w W3 from hW3▸au (au (au (Below.refl _ _) _) _) _);have P_:=hide (show W3.heap.size=w.heap.size+3 from by rw[←hW3];simp);revert hmm H HDO W3 hW3 Ad P_;exact aW.out):p:=k ⟨h⟩
theorem Ip {p q:Prop}(h:q)(k:cB q→p:=by
 intro aW;have jF:=hide hf;have PE:=hide hr;obtain⟨len,hlen⟩:∃len,l.length=len:=⟨_,rfl⟩;have hlb:len≤1099511627776:=by rw[←hlen];exact hbig
 have hl0:((len:Int)==0)=false:=by have:=hl;simp;omega
 have HL:=hide hlen;revert jF PE len hlen hlb hl0 HL;exact aW.out):p:=k ⟨h⟩
theorem Gm {p q:Prop}(h:q)(k:cB q→p:=by
 intro aW;have wI:=abP.out;obtain⟨q1,q2⟩:=HEB.out;have xS:Below w.heap.size w w9:=KZ.out.trans (FX.out.below KZ.out.size (by rintro k rfl;omega));revert wI q1 q2 xS;exact aW.out):p:=k ⟨h⟩
theorem ZG {p q:Prop}(h:q)(k:cB q→p:=by
 intro aW;simp only[mP,List.foldl_cons,List.foldl_nil,List.setIfInBounds_toArray,List.set_cons_zero,List.set_cons_succ];exact aW.out):p:=k ⟨h⟩
theorem Zi {p q:Prop}(h:q)(k:cB q→p:=by
 intro aW;obtain⟨W3,hW3⟩:∃W,w2.alloc (.cells #[.slice At nt ct,.slice Au nu cu] 28)=W:=⟨_,rfl⟩;have n3:W3.heap[w2.heap.size]?=some (.cells #[.slice At nt ct,.slice Au nu cu] 28 (0,0)):=by rw[←hW3];exact aR w2 _
 have b3:Below w2.heap.size w2 W3:=by rw[←hW3];exact au (Below.refl _ _) _
 rw[hW3];revert W3 hW3 n3 b3;exact aW.out):p:=k ⟨h⟩
theorem Zy {p q:Prop}(h:q)(k:cB q→p:=by
 intro aW;have pV:=hide (fun W (h:Below (wr.heap.size+1) (wr.alloc (.cells #[.int .i64 44,.string ys,.int .i64 yn,.slice A' jd c'] 24)) W)=>fF 44 ys yn A' jd c' wr W h);have o9:=hide (au (Below.refl wr.heap.size wr) (.cells #[.int .i64 44,.string ys,.int .i64 yn,.slice A' jd c'] 24));revert pV o9;exact aW.out):p:=k ⟨h⟩
theorem OP {p q:Prop}(h:q)(k:cB q→p:=by
 intro aW;have eY:(i:Int)<(s.size:Int):=by omega
 obtain⟨bb,hbb⟩:∃bb,bt s (i:Int)=bb:=⟨_,rfl⟩;have HE:=hide (show nG s i=(decide (bb=36)||nG s (i+1))from hbb▸Zx hlt);have hbt:((s[i]'hlt).toNat:Int)=bb:=(DW s (i:Int) hlt).trans hbb;have P8:=hide hbt;clear hbt hbb;revert eY bb HE P8;exact aW.out):p:=k ⟨h⟩
theorem Xh {p q:Prop}(h:q)(k:cB q→p:=by
 intro aW;have HY:=hide hy;have kC:=hide dR;have jL:=hide (fun w2 h hb=>J.out.1.next (w2:=w2) hy h hb);have HST:=hide (J.out.1.stop hy);revert HY kC jL HST;exact aW.out):p:=k ⟨h⟩
theorem O9 {p q:Prop}(h:q)(k:cB q→p:=by
 intro aW;have hss:=hf.str;simp only at hss;have hpos:=iL ⟨62,s,n,l⟩;have hfe:(flat ⟨62,s,n,l⟩).length=(aM l).length+1:=bC ⟨62,s,n,l⟩;simp only at hpos;have hp0:=hbd.p0;have hp1:=hbd.p1;have htp:=hbd.aN;revert hss hfe hpos hp0 hp1 htp;exact aW.out):p:=k ⟨h⟩
theorem d_ {p q:Prop}(h:q)(k:cB q→p:=by
 intro aW;obtain⟨r,hrr⟩:∃r,gM l=r:=⟨_,rfl⟩;have fH:=hide hrr.symm;rw[hrr];clear hrr;revert r fH;exact aW.out):p:=k ⟨h⟩
theorem OW {p q:Prop}(h:q)(k:cB q→p:=by
 intro aW;obtain⟨len,hlen⟩:∃q,l.length=q:=⟨_,rfl⟩;revert len hlen;exact aW.out):p:=k ⟨h⟩
theorem GH {p q:Prop}(h:q)(k:cB q→p:=by
 intro aW;have pV:=hide (fun W (h:Below (wr.heap.size+1) (wr.alloc (.cells #[.int .i64 yk,.string ys,.int .i64 yn,.slice (some eB) 1 c'] 24)) W)=>fF yk ys yn (some eB) 1 c' wr W h);have o9:=hide (au (Below.refl wr.heap.size wr) (.cells #[.int .i64 yk,.string ys,.int .i64 yn,.slice (some eB) 1 c'] 24));revert pV o9;exact aW.out):p:=k ⟨h⟩
theorem H9 {p q:Prop}(h:q)(k:cB q→p:=by
 intro aW;obtain⟨s,hs⟩:∃s,sz y=s:=⟨_,rfl⟩;have hs0:0≤s∧s≤(flat y).length:=by rw[←hs];unfold sz;omega
 have hws:wrap64 (p+s)=p+s:=by unfold wrap64;omega
 revert s hs hs0 hws;exact aW.out):p:=k ⟨h⟩
theorem Wy {p q:Prop}(h:q)(k:cB q→p:=by
 intro aW;have hx2:=(hd.fr.block _ (ay gF.out) gN.out).trans gF.out;have Tx:w2.cell? ⟨w.heap.size,0,none⟩=some (.int .i64 63):=(aj hx2 0).trans rfl;revert hx2 Tx;exact aW.out):p:=k ⟨h⟩
theorem Y4 {p q:Prop}(h:q)(k:cB q→p:=by
 intro aW;have na:=hno ba (ay h3.a) ho1;have nn:=hno bn (ay h3.n) ho2;have ng:=hno bg (ay h3.g) ho3;have ns:bs≠m1.g∧bs≠b:=⟨fun e=>Wu (.inl e),fun e=>Wu (.inr (.inr (.inr (.inr (.inr (.inr (e▸Ww)))))))⟩;have nf:bf≠m1.g∧bf≠b:=⟨fun e=>Wv (.inl e),fun e=>Wv (.inr (.inr (.inr (.inr (.inr (.inr (e▸Ww)))))))⟩;have hbW:=h.bR hb hfr;have Tw:=h3.fr hfr ho1 ho2 ho3;rw[←hg]at hbx Tw;revert na nn ng ns nf hbW hbx Tw;exact aW.out):p:=k ⟨h⟩
theorem VK {p q:Prop}(h:q)(k:cB q→p:=by
 intro aW;have h1:((yl.length:Int) != 1)=true:=by simp;omega
 have vU:=hide (hPy false (by rw[vZ];exact uh (by simpa using fun e=>hone e.symm)));obtain⟨jd,fA⟩:∃z,yl.length=z:=⟨_,rfl⟩;rw[fA]at k3 h1 HK;have iI:=hide (fun W (h:Below wr.heap.size wr W)=>And.intro (ak h HK.out.1) (And.intro (ak h HK.out.2.1) (And.intro (ak h HK.out.2.2.1) (ak h HK.out.2.2.2))));revert vU jd fA k3 h1 HK iI;exact aW.out):p:=k ⟨h⟩
theorem uJ {p q:Prop}(h:q)(k:cB q→p:=by
 intro aW;rw[show m.row.length=m.ms.length from by unfold FM.row;simp];obtain⟨v1,hv1⟩:∃v1,Value.slice A9 (m.ms.length+1) c9=v1:=⟨_,rfl⟩;rw[hv1]at F1 F4;obtain⟨W7,wP⟩:∃W7,w6.setCell ⟨m.g,4,none⟩ (Value.slice A9 (m.ms.length+1) c9)=W7:=⟨_,rfl⟩;rw[wP];rw[hv1]at wP;have e7:∀k,k≠m.g→W7.heap[k]?=w6.heap[k]?:=fun k hk=>by rw[←wP];exact Below.heap_setCell _ _ _ _ hk
 revert v1 hv1 F1 F4 W7 wP e7;exact aW.out):p:=k ⟨h⟩
theorem IZ {p q:Prop}(h:q)(k:cB q→p:=by
 intro aW;have hb0:Below W2.heap.size W2 W2.drew:=bq (Below.refl _ _);revert hb0;exact aW.out):p:=k ⟨h⟩
theorem UY {p q:Prop}(h:q)(k:cB q→p:=by
 intro aW;have C_:=hide (fun W (_:Below w.heap.size w W)=>aK hv (su s (by have:=hf.str;simpa using this) W));revert C_;exact aW.out):p:=k ⟨h⟩
theorem ZF {p q:Prop}(h:q)(k:cB q→p:=by
 intro aW;have HP:=hide hP;obtain⟨z1,hz1⟩:∃z,decide ((1:Int)<(len:Int))=z:=⟨_,rfl⟩;have hz1':decide (1<len)=z1:=by rw[←hz1,Bool.eq_iff_iff];simp only[decide_eq_true_eq];omega
 obtain⟨z2,hz2⟩:∃z,(s.toList==[])=z:=⟨_,rfl⟩;have hz2':s.toList.isEmpty=z2:=by rw[←hz2];cases s.toList<;>rfl
 revert HP z1 hz1 hz1' z2 hz2 hz2';exact aW.out):p:=k ⟨h⟩
theorem UM {p q:Prop}(h:q)(k:cB q→p:=by
 intro aW;have B2:=hide (B1.out.trans (hv.low.mono B1.out.size));have LZ:=hide hv.low;obtain⟨pr,hpr⟩:∃q,posR x=q:=⟨_,rfl⟩;obtain⟨er,her⟩:∃q,oV x=q:=⟨_,rfl⟩;obtain⟨nt,hnt⟩:∃q,(ig x).length=q:=⟨_,rfl⟩;obtain⟨nu,hnu⟩:∃q,(fZ x).length=q:=⟨_,rfl⟩;rw[hpr,her,hnt,hnu];have lq:=hide hrow;have Jw:=hide her;revert B2 LZ pr hpr er her nt hnt nu hnu lq Jw;exact aW.out):p:=k ⟨h⟩
theorem I6 {p q:Prop}(h:q)(k:cB q→p:=by
 intro aW;have hfs:y0.f1=o_ l:=by cases l with|nil=>simp at hy0|cons a l=>simp at hy0;rw[←hy0];rfl
 rw[hfs]at j1;obtain⟨fs,Du⟩:∃fs,o_ l=fs:=⟨_,rfl⟩;have HFS:=hide Du;rw[Du]at j1;have j1':wr.cell? ⟨ad.block,ad.off+1,none⟩=some (.string fs):=by rw[kN]at j1;exact j1
 revert hfs fs Du HFS j1 j1';exact aW.out):p:=k ⟨h⟩
theorem OB {p q:Prop}(h:q)(k:cB q→p:=by
 intro aW;have hsz:=hf.str;simp only at hsz;have IH:=hide ih;have HC:=hide hr.kids;have HTAB:=hide hr.tab;revert hsz IH HC HTAB;exact aW.out):p:=k ⟨h⟩
theorem Zh {p q:Prop}(h:q)(k:cB q→p:=by
 intro aW;obtain⟨w2,hw2⟩:∃w2,w6.setCell ⟨m1.g,2,none⟩ (.slice A9 (s1.aT.length+1) c9)=w2:=⟨_,rfl⟩;revert w2 hw2;exact aW.out):p:=k ⟨h⟩
theorem IG {p q:Prop}(h:q)(k:cB q→p:=by
 intro aW;have h1:((yl.length:Int)==2)=false:=by simp;omega
 have iy:=hide (hok false (mI (by simpa using fun e=>LH e.symm)));obtain⟨jd,fA⟩:∃z,yl.length=z:=⟨_,rfl⟩;rw[fA]at k3 h1;revert iy jd fA k3 h1;exact aW.out):p:=k ⟨h⟩
theorem iN {p q:Prop}(h:q)(k:cB q→p:=by
 intro aW;have hcall:=hk (by first|decide|assumption) A c w2 m1 s1 pos (gK.out.bR jD.out hf2) HR.out hfin hp0 ⟨by omega,by simp only;omega,by simp only;omega,by rw[h2];simp only;exact Nat.le_trans (Nat.le_add_right _ 1048576) EB.out,by rw[h3];exact htp,by simp only;omega⟩;unfold nd at hcall;simp only at hcall;rw[HLEN.out,hu.g]at hcall;revert hcall;exact aW.out):p:=k ⟨h⟩
theorem nP {p q:Prop}(h:q)(k:cB q→p:=by
 intro aW;have hno:¬m.own w.heap.size:=fun k=>by have:=h.hi _ k;omega
 revert hno;exact aW.out):p:=k ⟨h⟩
theorem yL {p q:Prop}(h:q)(k:cB q→p:=by
 intro aW;have vJ:=hide ha;have HLEN:=hide hlen;unfold nd;simp only;rw[hlen];revert vJ HLEN;exact aW.out):p:=k ⟨h⟩
theorem VT {p q:Prop}(h:q)(k:cB q→p:=by
 intro aW;have c3:wr.cell? ⟨w.heap.size,3,none⟩=some (.slice A n c):=(aj Q.out.box 3).trans rfl;revert c3;exact aW.out):p:=k ⟨h⟩
theorem Cc {p q:Prop}(h:q)(k:cB q→p:=by
 intro aW;have hl7:K1.R 97 W7 D (fun k=>D≤k) v1 (m.row++[[.map (some (w.heap.size+1))]]):=bW rfl F1.out (fun k q=>e7 k (fun e=>hne (e▸q)));have hfin:=H.out.opened (w':=W7) hb7 (fun k hk hn ho=>by rw[e7 k hk];exact(Qa.out.block _ (by have:=H.out.hi k ho;have:=Ad.out.size;omega) hn).trans (Ad.out.block _ (H.out.hi k ho))) VQ (by omega) hl7;revert hl7 hfin;exact aW.out):p:=k ⟨h⟩
theorem Y_ {p q:Prop}(h:q)(k:cB q→p:=by
 intro aW;have b0:W9.cell? ⟨w.heap.size+1,0,none⟩=some (.int .i64 0):=(aj a1 0).trans rfl;revert b0;exact aW.out):p:=k ⟨h⟩
theorem C9 {p q:Prop}(h:q)(k:cB q→p:=by
 intro aW;have Q0:=hide (show NQ w (w.alloc (.cells #[.int .i64 12,.string s,.int .i64 n,.slice A len c] 24)) P l 0 (.slice none 0 0) w1 from⟨HB0.out.trans (HW1.out.mono (by omega)),HW1.out,by have:=HW1.out.size;simpa using this,by simp,by simp[texts],by simpa [texts]using Kd.jm _ _ _ _ _⟩);revert Q0;exact aW.out):p:=k ⟨h⟩
theorem UR {p q:Prop}(h:q)(k:cB q→p:=by
 intro aW;have hl:l.length≤1099511627776:=hf.len2;have HC:=hide hr.kids;have HTAB:=hide hr.tab;revert hl HC HTAB;exact aW.out):p:=k ⟨h⟩
theorem UZ {p q:Prop}(h:q)(k:cB q→p:=by
 intro aW;unfold Tp;simp only;rw[Aa,if_pos rfl,hok1,hz3];have e2:(i+1==len)=!z2:=by rw[←hz2,Bool.eq_iff_iff];simp;omega
 have e4:(i==1)=z4:=by rw[←hz4,Bool.eq_iff_iff];simp;omega
 have e5:(!MV fs)=z5:=by unfold MV;rw[hz5];simp
 rw[e2,e4,e5];revert e2 e4 e5;exact aW.out):p:=k ⟨h⟩
theorem WA {p q:Prop}(h:q)(k:cB q→p:=by
 intro aW;have dI:=hide (fun W (h:Below w1.heap.size w1 W)=>And.intro (ak h c11) (And.intro (ak h c12) (ak h c13)));have Q0:=hide (show JQ w P l 0 w1∧Below w1.heap.size w1 w1 from⟨⟨HB1.out,by simp⟩,Below.refl _ _⟩);revert dI Q0;exact aW.out):p:=k ⟨h⟩
theorem ZH {p q:Prop}(h:q)(k:cB q→p:=by
 intro aW;have hbw:Below D w0 wr:=sV.out.trans (Q.out.fr.below Af.out (by rintro k (rfl|rfl);exact tF.out _ (.inl rfl);exact tF.out _ (.inr (.inr (.inr (.inr (.inr (.inr HBM.out))))))));obtain⟨k0,k1,k2,k3⟩:=hcells wr (fun k hk=>hbw.block k hk);have kC:=hide dR;have iH:=hide hy;have af0:=hide hbw;revert hbw k0 k1 k2 k3 kC iH af0;exact aW.out):p:=k ⟨h⟩
theorem Y3 {p q:Prop}(h:q)(k:cB q→p:=by
 intro aW;obtain⟨nl,hnl⟩:∃q,(flat x).length=q:=⟨_,rfl⟩;rw[hnl];have Jy:=hide hnl;have oF:=hide hCL;have B4:=hide (B2.out.trans ((b3.trans (hb4.mono b3.size)).mono B2.out.size));have TF:=hide (LZ.out.trans ((b3.trans (hb4.mono b3.size)).mono LZ.out.size));revert nl hnl Jy oF B4 TF;exact aW.out):p:=k ⟨h⟩
theorem Oy {p q:Prop}(h:q)(k:cB q→p:=by
 intro aW;obtain⟨zn,hzn⟩:∃z,(yn != 0)=z:=⟨_,rfl⟩;obtain⟨zp,iO⟩:∃z,eP ys=!z:=⟨!eP ys,by simp⟩;have qK:=hide (fun W=>m_ ys (by have:=g_.str;simp only at this;omega) W);rw[iO]at qK;revert zn hzn zp iO qK;exact aW.out):p:=k ⟨h⟩
theorem F5 {p q:Prop}(h:q)(k:cB q→p:=by
 intro aW;have HDQ:=hide (show D≤wq.heap.size from Nat.le_trans Oq.lg (Nat.le_of_lt (ay Oq.blk)));revert HDQ;exact aW.out):p:=k ⟨h⟩
theorem mG {p q:Prop}(h:q)(k:cB q→p:=by
 intro aW;have E0:=hide (show Below W2.heap.size W2 we by rw[hwd];exact hb0);revert E0;exact aW.out):p:=k ⟨h⟩
theorem YP {p q:Prop}(h:q)(k:cB q→p:=by
 intro aW;have vJ:=hide ha;have HLEN:=hide hlen;have EB:=hide hlo2;unfold nd;simp only;rw[hlen];revert vJ HLEN EB;exact aW.out):p:=k ⟨h⟩
theorem Hy {p q:Prop}(h:q)(k:cB q→p:=by
 intro aW;rw[htk]at hgr;have hg1:=hgr.aN;have hg2:=hgr.ex;have hpp:=Q.out.p;have hnb:¬v1.own w.heap.size:=fun k=>(hu1.own _ k).elim gN.out (fun q=>by have:=ay gF.out;omega);have G8:=hide hnb;have jL:=hide (show¬v1.own wr.heap.size from fun k=>by have:=hf1.hi _ k;omega);have rZ:=hide hu1;have II:=hide hf1;have Kl:=hide hpp;obtain⟨q,hs⟩:∃q,sz y=q:=⟨_,rfl⟩;have hs0:0≤q∧q≤(flat y).length:=by rw[←hs];unfold sz;omega
 have hws:wrap64 (p+q)=p+q:=by unfold wrap64;omega
 have Jp:=hide (show(flat y).length≤1099511627776 by omega);have HS:=hide hs;revert hgr hg1 hg2 hpp hnb G8 jL rZ II Kl q hs hs0 hws Jp HS;exact aW.out):p:=k ⟨h⟩
theorem WQ {p q:Prop}(h:q)(k:cB q→p:=by
 intro aW;have Mi:t∈(⟨63,s,n,l⟩:Tr).f3:=by simp only;rw[hl];simp
 have hft:=hf.kid Mi;have yY:(aM l).length=(flat t).length:=by rw[hl];simp[aM]
 revert Mi hft yY;exact aW.out):p:=k ⟨h⟩
theorem X9 {p q:Prop}(h:q)(k:cB q→p:=by
 intro aW;have b0:wb.cell? ⟨wr.heap.size,0,none⟩=some (.int .i64 y.f0):=(aj hxb 0).trans rfl;have b1:wb.cell? ⟨wr.heap.size,1,none⟩=some (.string y.f1):=(aj hxb 1).trans rfl;have b2:wb.cell? ⟨wr.heap.size,2,none⟩=some (.int .i64 y.f2):=(aj hxb 2).trans rfl;have b3:wb.cell? ⟨wr.heap.size,3,none⟩=some (.slice A' y.f3.length c'):=(aj hxb 3).trans rfl;revert b0 b1 b2 b3;exact aW.out):p:=k ⟨h⟩
theorem VG {p q:Prop}(h:q)(k:cB q→p:=by
 intro aW;unfold nd at hcall;rw[HN.out]at hcall;have HC:=hide hcall;have rZ:=hide hu1;have sV:=hide hbw;have n0:wr.cell? ⟨w.heap.size,0,none⟩=some (.int .i64 x.f0):=(aj Q.out.box 0).trans rfl;have n1:wr.cell? ⟨w.heap.size,1,none⟩=some (.string x.f1):=(aj Q.out.box 1).trans rfl;have n2:wr.cell? ⟨w.heap.size,2,none⟩=some (.int .i64 x.f2):=(aj Q.out.box 2).trans rfl;revert hcall HC rZ sV n0 n1 n2;exact aW.out):p:=k ⟨h⟩
theorem Za {p q:Prop}(h:q)(k:cB q→p:=by
 intro aW;rw[←hW3];have n0:=aR w (.cells #[.pointer (some ⟨m.g,0,none⟩)] 51);have n2:=aR ((w.alloc (.cells #[.pointer (some ⟨m.g,0,none⟩)] 51)).alloc (.map #[] 0)) (.cells #[.map (some (w.heap.size+1))] 97);have n1:=dY.made (w.alloc (.cells #[.pointer (some ⟨m.g,0,none⟩)] 51));simp only[World.size_alloc]at n1 n2;revert n0 n1 n2;exact aW.out):p:=k ⟨h⟩
theorem WR {p q:Prop}(h:q)(k:cB q→p:=by
 intro aW;obtain⟨zi,hzi⟩:∃z,jE (texts (l.take i)) y.f1=z:=⟨_,rfl⟩;have EG:=hide hzi;rw[hzi]at xV;obtain⟨yk,ys,yn,yl⟩:=y;simp only at k0 k1 k2 k3 xV;obtain⟨zk,vO⟩:∃z,(yk != 13)=z:=⟨_,rfl⟩;obtain⟨zn,hzn⟩:∃z,(yn != 0)=z:=⟨_,rfl⟩;obtain⟨zp,iO⟩:∃z,nH ys=!z:=⟨!nH ys,by simp⟩;have qK:=hide (fun W=>jy ys (by have:=g_.str;simp only at this;omega) W);rw[iO]at qK;revert zi hzi EG yk ys yn yl k0 k1 k2 k3 xV zk vO zn hzn zp iO qK;exact aW.out):p:=k ⟨h⟩
theorem yJ {p q:Prop}(h:q)(k:cB q→p:=by
 intro aW;have d21:w2.cell? ⟨w.heap.size,1,none⟩=some (.string s):=(aj hx2 1).trans rfl;have d22:w2.cell? ⟨w.heap.size,2,none⟩=some (.int .i64 n):=(aj hx2 2).trans rfl;have d23:w2.cell? ⟨w.heap.size,3,none⟩=some (.slice A len c):=(aj hx2 3).trans rfl;revert d21 d22 d23;exact aW.out):p:=k ⟨h⟩
theorem NC {p q:Prop}(h:q)(k:cB q→p:=by
 intro aW;have B0:=hide (show Below W2.heap.size W2 wd by rw[hwd];exact hb0);revert B0;exact aW.out):p:=k ⟨h⟩
theorem Zq {p q:Prop}(h:q)(k:cB q→p:=by
 intro aW;have hx1:W1.heap[w.heap.size]?=some (.cells #[.int .i64 42,.string s,.int .i64 n,.slice A len c] 24 (0,0)):=hW1▸aR w _;revert hx1;exact aW.out):p:=k ⟨h⟩
theorem Wz {p q:Prop}(h:q)(k:cB q→p:=by
 intro aW;obtain⟨q,hqf,hq⟩:∃q,q=false∧toB ys yl=q:=⟨false,rfl,by unfold toB;match yl,hone with|[],_=>rfl|[a],h=>exact absurd rfl h|a::b::m,_=>rfl⟩;have h1:((yl.length:Int) != 1)=true:=by simp;omega
 revert q hqf hq h1;exact aW.out):p:=k ⟨h⟩
theorem ZE {p q:Prop}(h:q)(k:cB q→p:=by
 intro aW;have HRX:=hide hr;have HN:=hide hn;have jL:=hide hnx;have vR:=hide hbd;have sV:=hide hbW;have HLEN:=hide hlen1;have Vt:=hide hms;have HNA:=hide na;have J4:=hide nn;have HNG:=hide ng;have HNS:=hide ns;have HNF:=hide nf;have Af:=hide (show D≤W.heap.size from Nat.le_trans hF.lg (Nat.le_of_lt (ay hF.blk)));have tF:=hide hF.low;have HBM:=hide Ww;revert HRX HN jL vR sV HLEN Vt HNA J4 HNG HNS HNF Af tF HBM;exact aW.out):p:=k ⟨h⟩
theorem Xr {p q:Prop}(h:q)(k:cB q→p:=by
 intro aW;have qm:=hide (fun W (h:Rd W x A c)=>show Calls Tryz.prog 10 #[.agg #[.int .i64 x.f0,.string x.f1,.int .i64 x.f2,.slice A n c],.slice none 0 0] W _ from by rw[←hn];exact ZC x hf A c W h hb);revert qm;exact aW.out):p:=k ⟨h⟩
theorem Xv {p q:Prop}(h:q)(k:cB q→p:=by
 intro aW;rw[htk]at hgr;have hg1:=hgr.aN;have hg2:=hgr.given;have hnb:¬({m with vl:=v1}:FM).own w.heap.size:=fun k=>(G_ hu1 _ k).elim gN.out (fun q=>by have:=ay gF.out;omega);have G8:=hide hnb;have rZ:=hide hu1;revert hgr hg1 hg2 hnb G8 rZ;exact aW.out):p:=k ⟨h⟩
theorem fK {p q:Prop}(h:q)(k:cB q→p:=by
 intro aW;have hss:=hf.str;simp only at hss;have hpos:=iL ⟨k,s,n,l⟩;have hfe:(flat ⟨k,s,n,l⟩).length=(aM l).length+1:=bC ⟨k,s,n,l⟩;simp only at hpos;have hp0:=hbd.p0;have hp1:=hbd.p1;have htp:=hbd.aN;revert hss hfe hpos hp0 hp1 htp;exact aW.out):p:=k ⟨h⟩
theorem kG {p q:Prop}(h:q)(k:cB q→p:=by
 intro aW;have hss:=hf.str;have hlc:=ha.loc;simp only at hss;revert hlc hss;exact aW.out):p:=k ⟨h⟩
theorem ql {p q:Prop}(h:q)(k:cB q→p:=by
 intro aW;have HLEN:=hide hlen;unfold nd;simp only;rw[hlen];revert HLEN;exact aW.out):p:=k ⟨h⟩
theorem X4 {p q:Prop}(h:q)(k:cB q→p:=by
 intro aW;have hw:wrap64 (pos+1)=pos+1:=by unfold wrap64;omega
 revert hw;exact aW.out):p:=k ⟨h⟩
theorem Y9 {p q:Prop}(h:q)(k:cB q→p:=by
 intro aW;obtain⟨z5,h5⟩:∃z,(fv==5)=z:=⟨_,rfl⟩;obtain⟨z6,h6⟩:∃z,(fv==6)=z:=⟨_,rfl⟩;have hz:(z5||z6)=true:=by unfold jw at hn;rw[Sr,h5,h6]at hn;exact hn
 have h5':(fv != 5)=!z5:=by simp only[bne,h5]
 have h6':(fv != 6)=!z6:=by simp only[bne,h6]
 rw[Sr]at CG;have abP:=hide hn;have HF:=hide hf;have HR:=hide hr;have HRF:=hide hrf;have wG:=hide hall;have Dr:=hide hbig;have HN:=hide hnn;revert z5 h5 z6 h6 hz h5' h6' CG abP HF HR HRF wG Dr HN;exact aW.out):p:=k ⟨h⟩
theorem Vx {p q:Prop}(h:q)(k:cB q→p:=by
 intro aW;have HP:=hide hP;have HB0:=hide (au (Below.refl w.heap.size w) (.cells #[.int .i64 12,.string s,.int .i64 n,.slice A l.length c] 24));have HPL:=hide (aK hpl (bD 12 s n A l.length c (w.alloc (.cells #[.int .i64 12,.string s,.int .i64 n,.slice A l.length c] 24))));rw[hP];revert HP HB0 HPL;exact aW.out):p:=k ⟨h⟩
theorem VH {p q:Prop}(h:q)(k:cB q→p:=by
 intro aW;have K7:=hide (K6.out.three (Fr.setCell (p:=⟨w.heap.size+1+1+1,0,none⟩) (Fr.refl (fun k=>k=w.heap.size+1+1+1) _) (.inl rfl) (.bool false)) (bT (cs':=#[.bool false]) K6.out.b3 0 (.bool false) rfl));revert K7;exact aW.out):p:=k ⟨h⟩
theorem rW {p q:Prop}(h:q)(k:cB q→p:=by
 intro aW;have Js:=hide ((Ad.out.block _ (h.hi _ (.inl rfl))).trans h.blk);have HGL:=hide (show m.g<w.heap.size from h.hi _ (.inl rfl));have HD:=hide (show D≤w.heap.size from Nat.le_trans h.lg (h.hi _ (.inl rfl)|>Nat.le_of_lt));revert Js HGL HD;exact aW.out):p:=k ⟨h⟩
theorem Zm {p q:Prop}(h:q)(k:cB q→p:=by
 intro aW;have hi0:(0:Int)≤(i:Int):=by omega
 revert hi0;exact aW.out):p:=k ⟨h⟩
theorem YF {p q:Prop}(h:q)(k:cB q→p:=by
 intro aW;have hl0:((len:Int)==0)=false:=by have:=h0;simp;omega
 obtain⟨e0,he0⟩:∃z,(s.toList==[])=z:=⟨_,rfl⟩;have N7:=hide (show s.toList.isEmpty=e0 from by rw[←he0];cases s.toList<;>rfl);revert hl0 e0 he0 N7;exact aW.out):p:=k ⟨h⟩
theorem BJ {p q:Prop}(h:q)(k:cB q→p:=by
 intro aW;have hL7:L≤t7.aT.length:=by rw[IC,List.length_append,HL.out];omega
 obtain⟨B7,L7,c7,IE⟩:∃B L cl,m7.vl= .slice B L cl:=by obtain⟨A,c,e,-⟩:=Kd.bL Mh.vl;exact⟨_,_,_,e⟩
 have YG:t7.aT.length=L7:=(Mh.C_l IE).2;have hc7:L7≤c7:=by have h1:=Mh.vl;rw[IE]at h1;exact(Kd.gQ h1).2.1
 have WL:w7.heap[m.g]?=some (.cells (m7.cells t7) 62 (0,0)):=by have:=Mh.blk;rw[WK.g,HU6.out.g]at this;exact this
 have c2:w7.cell? ⟨m.g,2,none⟩=some (.slice B7 L7 c7):=by rw[←IE];exact(aj WL 2).trans rfl
 have f2:=aQ WL 2;have hcut:=Mh.cut IE hL7;revert hL7 B7 L7 c7 IE YG hc7 WL c2 f2 hcut;exact aW.out):p:=k ⟨h⟩
theorem Cv {p q:Prop}(h:q)(k:cB q→p:=by
 intro aW;obtain⟨W1,hW1⟩:∃W1,w.alloc (.cells #[.int .i64 k,.string s,.int .i64 n,.slice A len c] 24)=W1:=⟨_,rfl⟩;revert W1 hW1;exact aW.out):p:=k ⟨h⟩
theorem GN {p q:Prop}(h:q)(k:cB q→p:=by
 intro aW;have hlb:len≤1099511627776:=by rw[←hlen];exact hf.len2
 have hll:l.length≤(aM l).length:=jY l;revert hlb hll;exact aW.out):p:=k ⟨h⟩
theorem WO {p q:Prop}(h:q)(k:cB q→p:=by
 intro aW;have hx1:W1.heap[w.heap.size]?=some (.cells #[.int .i64 41,.string s,.int .i64 n,.slice A len c] 24 (0,0)):=hW1▸aR w _;revert hx1;exact aW.out):p:=k ⟨h⟩
theorem y5 {p q:Prop}(h:q)(k:cB q→p:=by
 intro aW;obtain⟨wb,hwb⟩:∃wb,wr.alloc (.cells #[.int .i64 y.f0,.string y.f1,.int .i64 y.f2,.slice A' y.f3.length c'] 24)=wb:=⟨_,rfl⟩;have hbb:Below wr.heap.size wr wb:=hwb▸au (Below.refl _ _) _;have hxb:wb.heap[wr.heap.size]?=some (.cells #[.int .i64 y.f0,.string y.f1,.int .i64 y.f2,.slice A' y.f3.length c'] 24 (0,0)):=hwb▸aR wr _;revert wb hwb hbb hxb;exact aW.out):p:=k ⟨h⟩
theorem X3 {p q:Prop}(h:q)(k:cB q→p:=by
 intro aW;have oF:=hide hcl;have HR1:=hide hr1;have HKL:=hide (hlk t (by rw[hl];simp));have HFK:=hide hft;revert oF HR1 HKL HFK;exact aW.out):p:=k ⟨h⟩
theorem YL {p q:Prop}(h:q)(k:cB q→p:=by
 intro aW;have hall:=(xD (x:=x) (by unfold jw at hn;simpa using hn)).2;have hrf:Ap w (fun k=>k<w.heap.size) x A c:=⟨Kd.C_F FC hr.kids,hr.cap⟩;obtain⟨n,hnn⟩:∃n,x.f3.length=n:=⟨_,rfl⟩;have hnb:n≤2513169434843:=by rw[←hnn];exact hf.len
 obtain⟨fv,Sr⟩:∃v,eT x=v:=⟨_,rfl⟩;revert hall hrf n hnn hnb fv Sr;exact aW.out):p:=k ⟨h⟩
theorem wL {p q:Prop}(h:q)(k:cB q→p:=by
 intro aW;have d1:w2.cell? ⟨w.heap.size,1,none⟩=some (.string s):=(aj hx2 1).trans rfl;have d2:w2.cell? ⟨w.heap.size,2,none⟩=some (.int .i64 n):=(aj hx2 2).trans rfl;have d3:w2.cell? ⟨w.heap.size,3,none⟩=some (.slice A len c):=(aj hx2 3).trans rfl;revert d1 d2 d3;exact aW.out):p:=k ⟨h⟩
theorem NA {p q:Prop}(h:q)(k:cB q→p:=by
 intro aW;have HT:=hide hT;have HC:=hide h;have HTAB:=hide ht;have qm:=hide hfl;revert HT HC HTAB qm;exact aW.out):p:=k ⟨h⟩
theorem Vw {p q:Prop}(h:q)(k:cB q→p:=by
 intro aW;obtain⟨W1,hW1⟩:∃W1,w.alloc (.cells #[.int .i64 42,.string s,.int .i64 n,.slice A len c] 24)=W1:=⟨_,rfl⟩;revert W1 hW1;exact aW.out):p:=k ⟨h⟩
theorem WB {p q:Prop}(h:q)(k:cB q→p:=by
 intro aW;obtain⟨W9,Nc⟩:∃W9,W3.putObj D2 (Obj.deferred none)=W9:=⟨_,rfl⟩;have kp:∀k,k<D2→W9.heap[k]?=W3.heap[k]?:=fun k hk=>by rw[←Nc];exact World.putObj_heap_other (by omega)
 revert W9 Nc kp;exact aW.out):p:=k ⟨h⟩
theorem Jg {p q:Prop}(h:q)(k:cB q→p:=by
 intro aW;have hx2:=(hfr2.block _ (ay hxb) (by rintro(e|e);have:=Q.out.fin.hi _ (.inl rfl);omega;have:=Q.out.fin.hi b (.inr (.inr (.inr (.inr (.inr (.inr HBM.out))))));omega)).trans hxb;revert hx2;exact aW.out):p:=k ⟨h⟩
theorem YD {p q:Prop}(h:q)(k:cB q→p:=by
 intro aW;rw[hn];have rA:=hide (fun(W:World) h=>LB.make (W:=W) (n:=n) hr h);revert rA;exact aW.out):p:=k ⟨h⟩
theorem gI {p q:Prop}(h:q)(k:cB q→p:=by
 intro aW;obtain⟨q,hs⟩:∃q,sz y=q:=⟨_,rfl⟩;have hs0:0≤q∧q≤(flat y).length:=by rw[←hs];unfold sz;omega
 have hws:wrap64 (p+q)=p+q:=by unfold wrap64;omega
 revert q hs hs0 hws;exact aW.out):p:=k ⟨h⟩
theorem X8 {p q:Prop}(h:q)(k:cB q→p:=by
 intro aW;rw[hrs];rw[hwk]at hrs;have jo:=hide hrs;revert hrs jo;exact aW.out):p:=k ⟨h⟩
theorem kJ {p q:Prop}(h:q)(k:cB q→p:=by
 intro aW;have HOWN:=hide (show¬m.own w.heap.size∧¬m.own (w.heap.size+1)from⟨fun k=>by have:=hown _ k;omega,fun k=>by have:=hown _ k;omega⟩);have HL4:=hide (hlow.trans (hb4.mono hlow.size));have lW:=hide (show w.heap.size+2≤W4.heap.size from Nat.le_trans hsz2 hb4.size);revert HOWN HL4 lW;exact aW.out):p:=k ⟨h⟩
theorem FD {p q:Prop}(h:q)(k:cB q→p:=by
 intro aW;obtain⟨b0,b1,b2,b3⟩:=dI.out _ J.out.b1;revert b0 b1 b2 b3;exact aW.out):p:=k ⟨h⟩
theorem Cr {p q:Prop}(h:q)(k:cB q→p:=by
 intro aW;obtain⟨k0,k1,k2,k3⟩:=hcells wr (fun k hk=>hbw.block k hk);have kC:=hide dR;have iH:=hide hy;have sV:=hide hbw;revert k0 k1 k2 k3 kC iH sV;exact aW.out):p:=k ⟨h⟩
theorem Vz {p q:Prop}(h:q)(k:cB q→p:=by
 intro aW;unfold nd at hcall;simp only at hcall;rw[hlen]at hcall;have HC:=hide hcall;revert hcall HC;exact aW.out):p:=k ⟨h⟩
theorem WG {p q:Prop}(h:q)(k:cB q→p:=by
 intro aW;obtain⟨W9,Nc⟩:∃W9,W8.putObj D2 (Obj.deferred none)=W9:=⟨_,rfl⟩;have kp:∀k,k<D2→W9.heap[k]?=W8.heap[k]?:=fun k hk=>by rw[←Nc];exact World.putObj_heap_other (by omega)
 revert W9 Nc kp;exact aW.out):p:=k ⟨h⟩
theorem Xl {p q:Prop}(h:q)(k:cB q→p:=by
 intro aW;have hbw:Below D w0 wr:=sV.out.trans (hq.fr.below Af.out (by rintro k (rfl|rfl);exact tF.out _ (.inl rfl);exact tF.out _ (.inr (.inr (.inr (.inr (.inr (.inr HBM.out))))))));revert hbw;exact aW.out):p:=k ⟨h⟩
theorem ZI {p q:Prop}(h:q)(k:cB q→p:=by
 intro aW;have hcall:=NJ w0 D t R5.out HFK.out HKL.out A1 c1 w2 m _ en (pos+1) item Hl HR1.out h2 HB2.out;unfold nd at hcall;rw[abC R5.out,Xk.out]at hcall;have HC:=hide hcall;have HD:=hide hd;revert hcall HC HD;exact aW.out):p:=k ⟨h⟩
theorem Cw {p q:Prop}(h:q)(k:cB q→p:=by
 intro aW;have c2:decide (nl≤p)=false:=decide_eq_false (by have:=Jy.out;omega);have hpl:(p:Int)<(nl:Int):=by have:=Jy.out;omega
 have hp0:(0:Int)≤(p:Int):=by omega
 revert c2 hpl hp0;exact aW.out):p:=k ⟨h⟩
theorem GY {p q:Prop}(h:q)(k:cB q→p:=by
 intro aW;have eY:(i:Int)<(len:Int):=by omega
 obtain⟨y,hy⟩:=eO (l:=l) (i:=i) (by rw[HLEN.out];exact hlt);revert eY y hy;exact aW.out):p:=k ⟨h⟩
theorem GL {p q:Prop}(h:q)(k:cB q→p:=by
 intro aW;have hx1:W1.heap[w.heap.size]?=some (.cells #[.int .i64 k,.string s,.int .i64 n,.slice A len c] 24 (0,0)):=hW1▸aR w _;revert hx1;exact aW.out):p:=k ⟨h⟩
theorem Zb {p q:Prop}(h:q)(k:cB q→p:=by
 intro aW;obtain⟨W1,hW1⟩:∃W1,w.alloc (.cells #[.int .i64 41,.string s,.int .i64 n,.slice A len c] 24)=W1:=⟨_,rfl⟩;revert W1 hW1;exact aW.out):p:=k ⟨h⟩
theorem yZ {p q:Prop}(h:q)(k:cB q→p:=by
 intro aW;have oF:=hide (fun W (h:Below wr.heap.size wr W)=>show Calls Tryz.prog 91 #[nd t A2 c2] W (aH W (!p))from by rw[←hp];exact HT.out _ (List.mem_of_getElem? hy) t (by simp) A2 c2 W (J.out.b0.trans (h.mono J.out.b0.size)) (hrt.below h));revert oF;exact aW.out):p:=k ⟨h⟩
theorem X_ {p q:Prop}(h:q)(k:cB q→p:=by
 intro aW;have hl0:(0:Int)<(len:Int):=by rw[←hlen,hl];simp
 revert hl0;exact aW.out):p:=k ⟨h⟩
theorem Nw {p q:Prop}(h:q)(k:cB q→p:=by
 intro aW;have oU:Below w.heap.size w W6:=hq.bR gK.out sV.out;have hsz:=lW.out;have Ij:=(hq.fr.block _ (ay Q.out.res) (HOW.out _ HOWN.out.2 (by omega))).trans Q.out.res;have NZ:m.g≠w.heap.size+1:=fun e=>HOWN.out.2 (.inl e.symm);revert oU hsz Ij NZ;exact aW.out):p:=k ⟨h⟩
theorem Vv {p q:Prop}(h:q)(k:cB q→p:=by
 intro aW;have xR:¬m1.own w.heap.size:=fun k=>(hu1.own _ k).elim dI.out.2 (fun q=>by have:=dI.out.1;omega);revert xR;exact aW.out):p:=k ⟨h⟩
theorem ND {p q:Prop}(h:q)(k:cB q→p:=by
 intro aW;have hd1:=HD4.out;have hq1:=HSJ.out.b1;have hq2:=HSJ.out.b2;have hq3:=HSJ.out.b3;have hq4:Below w.heap.size w W3:=(pq.out.low.trans (HSJ.out.fr.below pq.out.low.size (by rintro k (rfl|rfl|rfl)<;>omega)));have hq5:=HD2.out;revert hd1 hq1 hq2 hq3 hq4 hq5;exact aW.out):p:=k ⟨h⟩
theorem WH {p q:Prop}(h:q)(k:cB q→p:=by
 intro aW;have b0:W1.cell? ⟨w.heap.size,0,none⟩=some (.int .i64 42):=(aj hx1 0).trans rfl;revert b0;exact aW.out):p:=k ⟨h⟩
theorem yT {p q:Prop}(h:q)(k:cB q→p:=by
 intro aW;have hbd:=vR.out;have g1:=hbd.us;have g2:=hbd.ms;have g3:=hgr.len;have g4:=bC x;have g5:=congrArg List.length Vt.out;simp only[List.length_append,List.length_singleton]at g5;simp only at g3;revert hbd g1 g2 g4 g5 g3;exact aW.out):p:=k ⟨h⟩
theorem GR {p q:Prop}(h:q)(k:cB q→p:=by
 intro aW;have hbw:=Q.out.q.bR gK.out jD.out;obtain⟨k0,k1,k2,k3⟩:=hcells wr (fun k hk=>hbw.block k hk);revert hbw k0 k1 k2 k3;exact aW.out):p:=k ⟨h⟩
theorem GZ {p q:Prop}(h:q)(k:cB q→p:=by
 intro aW;have b0:W1.cell? ⟨w.heap.size,0,none⟩=some (.int .i64 41):=(aj hx1 0).trans rfl;revert b0;exact aW.out):p:=k ⟨h⟩
theorem Hw {p q:Prop}(h:q)(k:cB q→p:=by
 intro aW;have b0:W1.cell? ⟨w.heap.size,0,none⟩=some (.int .i64 k):=(aj hx1 0).trans rfl;revert b0;exact aW.out):p:=k ⟨h⟩
theorem Io {p q:Prop}(h:q)(k:cB q→p:=by
 intro aW;have hk0:(⟨63,s,n,l⟩:Tr).f3[0]?=some t:=by simp only;rw[hl];rfl
 revert hk0;exact aW.out):p:=k ⟨h⟩
theorem yI {p q:Prop}(h:q)(k:cB q→p:=by
 intro aW;have e0:=(aj dI.out 0).trans rfl;have e1:=(aj dI.out 1).trans rfl;revert e0 e1;exact aW.out):p:=k ⟨h⟩
theorem OT {p q:Prop}(h:q)(k:cB q→p:=by
 intro aW;obtain⟨wd,hwd⟩:∃wd,wd=W2.drew:=⟨_,rfl⟩;revert wd hwd;exact aW.out):p:=k ⟨h⟩
theorem GV {p q:Prop}(h:q)(k:cB q→p:=by
 intro aW;have Jr:=hide (J.out.b1.trans (jV.out.mono J.out.sz));have hsz:=Nat.le_trans J.out.sz jV.out.size;revert Jr hsz;exact aW.out):p:=k ⟨h⟩
theorem G6 {p q:Prop}(h:q)(k:cB q→p:=by
 intro aW;have hx1:W1.heap[w.heap.size]?=some (.cells #[.int .i64 60,.string s,.int .i64 n,.slice A len c] 24 (0,0)):=hW1▸aR w _;revert hx1;exact aW.out):p:=k ⟨h⟩
theorem X6 {p q:Prop}(h:q)(k:cB q→p:=by
 intro aW;have hx1:W1.heap[w.heap.size]?=some (.cells #[.int .i64 64,.string s,.int .i64 n,.slice A len c] 24 (0,0)):=hW1▸aR w _;revert hx1;exact aW.out):p:=k ⟨h⟩
theorem H_ {p q:Prop}(h:q)(k:cB q→p:=by
 intro aW;have hlow:Below w.heap.size w w2:=(au (au (Below.refl _ _) _) _).trans (h2.mono (by simp;omega));have hsz2:w.heap.size+2≤w2.heap.size:=by have:=h2.size;simp at this;omega
 revert hlow hsz2;exact aW.out):p:=k ⟨h⟩
theorem X7 {p q:Prop}(h:q)(k:cB q→p:=by
 intro aW;obtain⟨yn,hyn⟩:∃q,y.f3.length=q:=⟨_,rfl⟩;have Xn:(0:Int)<(yn:Int):=by rw[←hyn,Ju];simp
 rw[hyn]at k3;revert yn hyn Xn k3;exact aW.out):p:=k ⟨h⟩
theorem GU {p q:Prop}(h:q)(k:cB q→p:=by
 intro aW;have KX:=(hb4.block _ (ay hbn)).trans hbn;have NW:=(hb4.block _ (ay hbx)).trans hbx;have c3:W4.cell? ⟨w.heap.size,3,none⟩=some (.slice A n c):=(aj KX 3).trans rfl;have H4:=hide hfin;revert KX NW c3 H4;exact aW.out):p:=k ⟨h⟩
theorem G5 {p q:Prop}(h:q)(k:cB q→p:=by
 intro aW;obtain⟨W1,hW1⟩:∃W1,w.alloc (.cells #[.int .i64 60,.string s,.int .i64 n,.slice A len c] 24)=W1:=⟨_,rfl⟩;revert W1 hW1;exact aW.out):p:=k ⟨h⟩
theorem Ya {p q:Prop}(h:q)(k:cB q→p:=by
 intro aW;obtain⟨W1,hW1⟩:∃W1,w.alloc (.cells #[.int .i64 64,.string s,.int .i64 n,.slice A len c] 24)=W1:=⟨_,rfl⟩;revert W1 hW1;exact aW.out):p:=k ⟨h⟩
theorem GX {p q:Prop}(h:q)(k:cB q→p:=by
 intro aW;obtain⟨Au,nu,cu,huv⟩:∃a b c,m6.vu= .slice a b c:=by obtain⟨a,c,e,-⟩:=Kd.bL Ii.vu;exact⟨_,_,_,e⟩
 have HF6:=hide Ii;have KZ:=hide oU;have HEB:=hide (And.intro Sw hbad);have HTU:=hide (And.intro htv huv);revert Au nu cu huv HF6 KZ HEB HTU;exact aW.out):p:=k ⟨h⟩
theorem G7 {p q:Prop}(h:q)(k:cB q→p:=by
 intro aW;have b0:W1.cell? ⟨w.heap.size,0,none⟩=some (.int .i64 60):=(aj hx1 0).trans rfl;revert b0;exact aW.out):p:=k ⟨h⟩
theorem Yd {p q:Prop}(h:q)(k:cB q→p:=by
 intro aW;have b0:W1.cell? ⟨w.heap.size,0,none⟩=some (.int .i64 64):=(aj hx1 0).trans rfl;revert b0;exact aW.out):p:=k ⟨h⟩
theorem OD {p q:Prop}(h:q)(k:cB q→p:=by
 intro aW;rw[p1,p2];have K9:∀k,k∉([w.heap.size+1]:List Nat)→k<W6.heap.size→w9.heap[k]?=W6.heap[k]?:=fun k h1 h2=>FX.out.block k h2 (by simpa using h1);revert K9;exact aW.out):p:=k ⟨h⟩
theorem Il {p q:Prop}(h:q)(k:cB q→p:=by
 intro aW;have b3:wr.cell? ⟨w.heap.size,3,none⟩=some (.slice A len c):=(aj Q.out.box 3).trans rfl;revert b3;exact aW.out):p:=k ⟨h⟩
theorem Xm {p q:Prop}(h:q)(k:cB q→p:=by
 intro aW;have B0:=hide (show Below W6.heap.size W6 wd by rw[hwd];exact hb0);revert B0;exact aW.out):p:=k ⟨h⟩
theorem Xu {p q:Prop}(h:q)(k:cB q→p:=by
 intro aW;have hss:=hf.str;simp only at hss;have hpos:=iL ⟨60,s,n,l⟩;have hfe:(flat ⟨60,s,n,l⟩).length=(aM l).length+1:=bC ⟨60,s,n,l⟩;simp only at hpos;have hp0:=hbd.p0;have hp1:=hbd.p1;have htp:=hbd.aN;revert hss hfe hpos hp0 hp1 htp;exact aW.out):p:=k ⟨h⟩
theorem YQ {p q:Prop}(h:q)(k:cB q→p:=by
 intro aW;have hss:=hf.str;simp only at hss;have hpos:=iL ⟨64,s,n,l⟩;have hfe:(flat ⟨64,s,n,l⟩).length=(aM l).length+1:=bC ⟨64,s,n,l⟩;simp only at hpos;have hp0:=hbd.p0;have hp1:=hbd.p1;have htp:=hbd.aN;revert hss hfe hpos hp0 hp1 htp;exact aW.out):p:=k ⟨h⟩
theorem YO {p q:Prop}(h:q)(k:cB q→p:=by
 intro aW;have lW:=hide (mY y Jo.out Jp.out (some eB) c' w2 (kC.out.kids w2 (fun k hk _=>hb3.block k hk)) kC.out.cap);rw[HS.out]at lW;unfold nd at lW;rw[HYN.out]at lW;revert lW;exact aW.out):p:=k ⟨h⟩
theorem aaf {p q:Prop}(h:q)(k:cB q→p:=by
 intro aW;have iH:=hide hy;have NK:=hide Ju;have HCE:=hide hcells;have HYN:=hide hyn;have sV:=hide hbw;have g_:=jF.out.kid (y:=y) hym;have Jo:=hide g_;have hfl:=HLL.out;have hle:=HLEN.out;have htk:(l.take i).length=i:=by rw[List.length_take];omega
 revert iH NK HCE HYN sV g_ Jo hfl hle htk;exact aW.out):p:=k ⟨h⟩
theorem ah {p:Prop}(h:p:=by repeat (first|(with_reducible first|exact HB.out|apply au|apply dJ|apply gZ)|exact HB.out)):p:=h
theorem aG {p:Prop}(h:p:=by omega):p:=h
theorem dL {p:Prop}(h:p:=by kernel_rfl):p:=h
theorem mU {p:Prop}(h:p:=by first|rfl|(simp;done)|(simp[*];done)):p:=h
theorem aA {p:Prop}(h:p:=by(try simp only[List.map_toArray,List.map_cons,List.map_nil]);first|done|rfl|(simp only[List.length_drop,List.length_take];rfl)):p:=h
theorem wN {p:Prop}(h:p:=by decide):p:=h
theorem lZ {p:Prop}(h:p:=by unfold qH;simp only[reduceIte,Int.reduceEq,or_true,true_or,or_self,or_false,false_or];exact Bool.and_comm _ _):p:=h
theorem mR {p:Prop}(h:p:=by first|(with_reducible assumption)|assumption):p:=h
theorem BA {p:Prop}(h:p:=by repeat (first|exact bU.refl _|apply bU.step)):p:=h
theorem tX {p:Prop}(h:p:=by repeat (first|(with_reducible first|exact HB.out|apply au|apply dJ|apply gZ|refine oz ?_ ac7.out)|exact HB.out)):p:=h
theorem oK {p:Prop}(h:p:=by first|rfl|(simp[uS,uT]<;>rfl)|(simp[*,uS,uT]<;>rfl)):p:=h
theorem Pp {p:Prop}(h:p:=by rw[if_neg (show¬(false=true)by decide)]at H;exact H):p:=h
theorem aC {p:Prop}(h:p:=by first|(simp only[mP,List.foldl_cons,List.foldl_nil,Act.put,List.setIfInBounds_toArray,List.set_cons_zero,List.set_cons_succ];done)|(simp only[mP,List.foldl_cons,List.foldl_nil,Act.put,List.setIfInBounds_toArray,List.set_cons_zero,List.set_cons_succ];rfl)):p:=h
theorem qo {p:Prop}(h:p:=by simp):p:=h
theorem Gs {p:Prop}(h:p:=by have h:=kL HC.out J.out.b0;rw[←HL.out]at h;exact h):p:=h
theorem rP {p:Prop}(h:p:=by repeat (first|(with_reducible first|exact HB.out|apply au|apply dJ|apply gZ|refine oz ?_ aiI.out)|exact HB.out)):p:=h
theorem jT {p:Prop}(h:p:=by simp only[List.map_toArray,List.map_cons,List.map_nil];rfl):p:=h
theorem Bz {p:Prop}(h:p:=by have:=hf.str;simpa using this):p:=h
theorem f_ {p:Prop}(h:p:=by(with_reducible repeat (first|refine dG ?_ _|refine dX ?_|refine dh ?_ _));exact oL.out):p:=h
theorem gX {p:Prop}(h:p:=by rw[hwd];exact hb0):p:=h
theorem eU {p:Prop}(h:p:=by simp[Value.oneCell']):p:=h
theorem bN {p:Prop}(h:p:=by simp only;omega):p:=h
theorem MK {p:Prop}(h:p:=by simp[*]):p:=h
theorem iG {p:Prop}(h:p:=by repeat (first|(with_reducible first|exact HB.out|apply au|apply dJ|apply gZ|refine oz ?_ ac7.out|refine oz ?_ aif.out)|exact HB.out)):p:=h
theorem zy {p:Prop}(h:p:=by unfold wrap64;omega):p:=h
theorem FZ {p:Prop}(h:p:=by unfold okF;simp only;rw[iO,hzi,hss,yt,N7.out,hq,I4,hn0];simp):p:=h
theorem dV {p:Prop}(h:p:=by rw[HR.out,if_pos (by simp[*])];exact zQ.same zP.out.1 ((Fr.of_below HW2.out).trans zP.out.2 (fun k hk=> .inl hk))):p:=h
theorem Oi {p:Prop}(h:p:=by simp;omega):p:=h
theorem Oj {p:Prop}(h:p:=by repeat (first|(with_reducible first|exact HB.out|apply au|apply dJ|apply gZ|refine oz ?_ ajE.out)|exact HB.out)):p:=h
theorem jQ {p:Prop}(h:p:=by repeat (first|(with_reducible first|exact HB.out|apply au|apply dJ|apply gZ|refine oz ?_ ajG.out)|exact HB.out)):p:=h
theorem gu {p:Prop}(h:p:=by rw[iy.out];simp[*]):p:=h
theorem yK {p:Prop}(h:p:=by rw[kR];simp):p:=h
theorem o8 {p:Prop}(h:p:=by obtain⟨a,b,c,d⟩:=x;simp[jh.mk.sizeOf_spec]at hx):p:=h
theorem gY {p:Prop}(h:p:=by simpa using fun e=>hl e.symm):p:=h
theorem wM {p:Prop}(h:p:=by rw[mo];simp):p:=h
theorem Ce {p:Prop}(h:p:=by rw[HST.out (by rw[vU.out];simp[*])];rfl):p:=h
theorem rJ {p:Prop}(h:p:=by simp[results,Tryz.results79,go_sem,b0,b1,b2,b3,b4,a2,a3]):p:=h
theorem Np {p:Prop}(h:p:=by rw[HN.out];exact Nat.le_refl _):p:=h
theorem uw {p:Prop}(h:p:=by(with_reducible repeat (first|refine dG ?_ _|refine dX ?_|refine dh ?_ _));exact lK.out):p:=h
theorem rE {p:Prop}(h:p:=by rw[ade.out,iy.out];simp[*]):p:=h
theorem aqR {p:Prop}(h:p:=by rw[if_pos rfl]at H;exact H):p:=h
theorem rG {p:Prop}(h:p:=by(simp only[Act.put,List.setIfInBounds_toArray,List.set_cons_zero,List.set_cons_succ,fU,fV];rfl)):p:=h
theorem Bn {p:Prop}(h:p:=by rw[List.length_drop];omega):p:=h
theorem Bo {p:Prop}(h:p:=by rw[←lF _ _ 1 (by omega)];exact hc 1 _ rfl):p:=h
theorem Ns {p:Prop}(h:p:=by rw[←lF _ _ 2 (by omega)];exact hc 2 _ rfl):p:=h
theorem lC {p:Prop}(h:p:=by(with_reducible repeat (first|apply Kd.iU|apply Kd.jq|apply Kd.kY));exact afY.out):p:=h
theorem Ox {p:Prop}(h:p:=by rw[HT.out];rfl):p:=h
theorem zu {p:Prop}(h:p:=by rw[←Dt.out];exact(aj ((hb.block _ (ay CP.out.blk)).trans CP.out.blk) 2).trans rfl):p:=h
theorem wm {p:Prop}(h:p:=by have:=HD2.out.size;simp at this;omega):p:=h
theorem OO {p:Prop}(h:p:=by rw[HL.out];exact Nat.le_refl _):p:=h
theorem zw {p:Prop}(h:p:=by rw[vU.out];simp[*]):p:=h
theorem aqS {p:Prop}(h:p:=by have:=HW1.out.size;simpa using this):p:=h
theorem I8 {p:Prop}(h:p:=by(simp only[List.setIfInBounds_toArray,List.set_cons_zero,List.set_cons_succ];rfl)):p:=h
theorem IX {p:Prop}(h:p:=by rw[J.out.eq];show gM (l.drop i)=_;rw[HE.out];rfl):p:=h
theorem E8 {p:Prop}(h:p:=by have h1:=hs y hy;have h2:=fJ (x:=y) ht;omega):p:=h
theorem yS {p:Prop}(h:p:=by rw[←lF _ _ 3 (by omega)];exact hc 3 _ rfl):p:=h
theorem wC {p:Prop}(h:p:=by unfold bQ;rw[←q];exact e):p:=h
theorem za {p:Prop}(h:p:=by rw[List.length_map];omega):p:=h
theorem OJ {p:Prop}(h:p:=by rw[List.getElem?_map,ht];rfl):p:=h
theorem Oh {p:Prop}(h:p:=by unfold iq;rw[Int.toNat_natCast,List.getD_eq_getElem?_getD,hp];rfl):p:=h
theorem ug {p:Prop}(h:p:=by obtain⟨A,c,e,-⟩:=Kd.bL h.vl;exact⟨_,_,_,e⟩):p:=h
theorem aqT {p:Prop}(h:p:=by unfold maxLen;omega):p:=h
theorem vX {p:Prop}(h:p:=by first|exact fun _ _ _ h=>h|exact fun _ _ _ h=>nomatch h.1):p:=h
theorem vY {p:Prop}(h:p:=by have:=JJ.out;omega):p:=h
theorem mV {p:Prop}(h:p:=by rw[HN.out];exact hlt):p:=h
theorem Oe {p:Prop}(h:p:=by simp[aM]):p:=h
theorem jI {p:Prop}(h:p:=by rw[List.length_map];first|omega|(have:=Oc.out;omega)):p:=h
theorem IW {p:Prop}(h:p:=by simp[hq]):p:=h
theorem BM {p:Prop}(h:p:=by have:=HD3.out.size;simp at this;omega):p:=h
theorem Yu {p:Prop}(h:p:=by rw[HFS.out,iy.out];simp[*]):p:=h
theorem Yv {p:Prop}(h:p:=by(with_reducible repeat (first|refine dG ?_ _|refine dX ?_|refine dh ?_ _));exact sM.out):p:=h
theorem VX {p:Prop}(h:p:=by(with_reducible repeat (first|refine dG ?_ _|refine dX ?_|refine dh ?_ _));exact sN.out):p:=h
theorem qh {p:Prop}(h:p:=by have:(0:Int)<(a0.size:Int):=of_decide_eq_true (by first|(with_reducible assumption)|assumption);omega):p:=h
theorem MU {p:Prop}(h:p:=by simpa using hk):p:=h
theorem I_ {p:Prop}(h:p:=by have h:=lq.out _ HB.out;rwa[World.size_alloc]at h):p:=h
theorem Ja {p:Prop}(h:p:=by have:=HD1.out.size;simpa using this):p:=h
theorem Jb {p:Prop}(h:p:=by have:=HD2.out.size;simpa using this):p:=h
theorem Jc {p:Prop}(h:p:=by have:=HD3.out.size;simpa using this):p:=h
theorem G9 {p:Prop}(h:p:=by have:=HD4.out.size;simpa using this):p:=h
theorem FB {p:Prop}(h:p:=by have:=ay Q.out.box;simp;omega):p:=h
theorem V7 {p:Prop}(h:p:=by simp only[wq,BH];rw[Q];try rfl):p:=h
theorem wK {p:Prop}(h:p:=by(with_reducible repeat (first|apply Kd.iU|apply Kd.jq|apply Kd.kY));exact Ky.out):p:=h
theorem V8 {p:Prop}(h:p:=by simp[gB,sH]):p:=h
theorem aZ {p:Prop}(h:p:=by(with_reducible repeat (first|apply Kd.iU|apply Kd.jq|apply Kd.kY));exact oQ.out):p:=h
theorem Nr {p:Prop}(h:p:=by rfl):p:=h
theorem OU {p:Prop}(h:p:=by have:=HJ5.out;first|omega|exact Nat.le_refl _):p:=h
theorem Gy {p:Prop}(h:p:=by rw[←SN.out];exact Kd.bS J.out.row jV.out):p:=h
theorem uL {p:Prop}(h:p:=by first|omega|exact Nat.le_refl _):p:=h
theorem rQ {p:Prop}(h:p:=by rw[HD.out];rfl):p:=h
theorem Zu {p:Prop}(h:p:=by simpa using h1):p:=h
theorem Pg {p:Prop}(h:p:=by unfold okF;simp only;rw[iO,hzi,hss,yt,N7.out,Zk,hpo,hpn,hzq,I4,hn0];simp):p:=h
theorem Pq {p:Prop}(h:p:=by rw[←hW3];exact au (Below.refl _ _) _):p:=h
theorem Nz {p:Prop}(h:p:=by rw[←TH];exact au (Below.refl _ _) _):p:=h
theorem Oz {p:Prop}(h:p:=by rw[bJ iH.out,gU,hs,hpp];omega):p:=h
theorem iC {p:Prop}(h:p:=by rw[List.length_map];have:=HLE.out.2.1;omega):p:=h
theorem Nb {p:Prop}(h:p:=by go_num):p:=h
theorem NV {p:Prop}(h:p:=by have:=HSW.out.sz;have:=HW.out.size;omega):p:=h
theorem Pf {p:Prop}(h:p:=by simp[results,Tryz.results7,go_sem,e0,e1]):p:=h
theorem YX {p:Prop}(h:p:=by simp[results,Tryz.results8,go_sem,e0,e1]):p:=h
theorem um {p:Prop}(h:p:=by unfold decodeN;rw[if_neg c1,if_neg (by omega),if_neg (by omega),if_neg (by omega)]):p:=h
theorem wz {p:Prop}(h:p:=by simpa using h2):p:=h
theorem Cx {p:Prop}(h:p:=by unfold sz;omega):p:=h
theorem Ve {p:Prop}(h:p:=by simp[kD,rR,U3]):p:=h
theorem y8 {p:Prop}(h:p:=by have:=run_endLoop (P:=P) q2 (by rw[hrec];simp);rw[hrec]at this;exact this):p:=h
theorem MQ {p:Prop}(h:p:=by simpa using H6.out):p:=h
theorem Jd {p:Prop}(h:p:=by have:=hf.str;simp only at this;omega):p:=h
theorem wh {p:Prop}(h:p:=by rw[←fH.out];simp[*]):p:=h
theorem YA {p:Prop}(h:p:=by simpa using h6):p:=h
theorem aae {p:Prop}(h:p:=by match i with|0|1|2|3=>simpa [oo]using hu|i+4=>simp at hu):p:=h
end Go.Proofs.YtldgmneijipbjaaGreatDoor.H
