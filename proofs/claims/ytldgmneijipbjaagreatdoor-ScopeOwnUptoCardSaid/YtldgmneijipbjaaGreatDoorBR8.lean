import Derived.Test.YtldgmneijipbjaaGreatDoorBR7
import Derived.Test.YtldgmneijipbjaaGreatDoorBMac
set_option linter.unusedVariables false
set_option linter.unusedSimpArgs false
set_option maxRecDepth 100000
set_option maxHeartbeats 16000000
namespace Go.Proofs.YtldgmneijipbjaaGreatDoor.H
open Go.RowKit Go.Shelf Go.Proofs.YtldgmneijipbjaaGreatDoorW.PrintWords Go.Proofs.YtldgmneijipbjaaGreatDoorW.PrintLast Go.Proofs.YtldgmneijipbjaaGreatDoorW.PrintMore
open PScopeOwn
def IY (l:List Tr):List ByteArray:=texts (l.filter yM)
theorem yh {l:List Tr}{i:Nat}{y:Tr}(h:l[i]?=some y):IY (l.take (i+1))=IY (l.take i)++(if yM y then[y.f1]else[]):=by
 unfold IY texts;rw[uq h,List.map_append]
 cases yM y<;>simp
theorem agR (l:List Tr)(i:Nat):(IY (l.take i)).length≤i:=by
 unfold IY texts;rw[List.length_map];exact Nat.le_trans (List.length_filter_le _ _) (List.length_take_le _ _)
structure CQ (w w0:World)(l:List Tr)(i:Nat)(st:Int)(v:Value)(wr:World):Prop where
 b0:Below w.heap.size w wr
 b1:Below (w.heap.size+1) w0 wr
 sz:w.heap.size+1≤wr.heap.size
 nd:(IY (l.take i)).Nodup
 row:Kd.R Kd.string 9 wr (w.heap.size+1) (fun k=>w.heap.size+1≤k) v (IY (l.take i))
 eq:kg 43 l=kg (43+st) (l.drop i)
theorem CQ.same {w w0 wr w2:World}{l:List Tr}{i:Nat}{st st':Int}{v:Value}{y:Tr}(q:CQ w w0 l i st v wr)(hy:l[i]?=some y)(hok:BL (43+st) y=true)(hn:yM y=false)(hst:y.f0=43+st')(hb:Below wr.heap.size wr w2):CQ w w0 l (i+1) st' v w2:=by
 refine⟨q.b0.trans (hb.mono q.b0.size),q.b1.trans (hb.mono q.sz),Nat.le_trans q.sz hb.size,?_,?_,by rw[q.eq,drop_at hy,kg,hok,Bool.true_and,hst]⟩
 ·rw[yh hy,hn];simpa using q.nd
 ·rw[yh hy,hn];simpa using Kd.bS q.row hb
theorem CQ.more {w w0 wr w2:World}{l:List Tr}{i:Nat}{st st':Int}{v v6:Value}{y:Tr}(q:CQ w w0 l i st v wr)(hy:l[i]?=some y)(hok:BL (43+st) y=true)(hn:yM y=true)(hst:y.f0=43+st')(hin:jE (IY (l.take i)) y.f1=false)
  (hb:Below (w.heap.size+1) w0 w2)(hb0:Below w.heap.size w w2)(hs:w.heap.size+1≤w2.heap.size)(hr:Kd.R Kd.string 9 w2 (w.heap.size+1) (fun k=>w.heap.size+1≤k) v6 (IY (l.take i)++[y.f1])):CQ w w0 l (i+1) st' v6 w2:=by
 refine⟨hb0,hb,hs,?_,?_,by rw[q.eq,drop_at hy,kg,hok,Bool.true_and,hst]⟩
 ·rw[yh hy,hn,if_pos rfl,List.nodup_append]
  exact adV
 ·rw[yh hy,hn];exact hr
theorem CQ.Y6 {w w0 wr:World}{l:List Tr}{i:Nat}{st:Int}{v:Value}{y:Tr}(q:CQ w w0 l i st v wr)(hy:l[i]?=some y)(hok:BL (43+st) y=false):(kg 43 l&&nN (l.filter yM))=false:=by rw[q.eq,drop_at hy,kg,hok];rfl
theorem CQ.Y7 {l:List Tr}{i:Nat}{y:Tr}(hy:l[i]?=some y)(hn:yM y=true)(hin:jE (IY (l.take i)) y.f1=true):(kg 43 l&&nN (l.filter yM))=false:=by
 have:nN (l.filter yM)=false:=by
  cases hu:nN (l.filter yM)with
  |false=>rfl
  |true=>
   have h1:=t_.1 hu;have e:texts (l.filter yM)=IY (l.take i)++texts ((l.drop i).filter yM):=by unfold IY texts;rw[←List.map_append,←List.filter_append,List.take_append_drop]
   rw[e,List.nodup_append]at h1;exact absurd rfl (h1.2.2 _ (kV.1 hin) _ (by unfold texts;rw[drop_at hy,List.filter_cons,hn];simp))
 rw[this,Bool.and_false]
theorem CQ.done {w w0 wr:World}{l:List Tr}{i:Nat}{st:Int}{v:Value}(q:CQ w w0 l i st v wr)(hi:l.length≤i):(kg 43 l&&nN (l.filter yM))=true:=by
 have h2:=q.nd;rw[List.take_of_length_le hi]at h2;rw[q.eq,List.drop_eq_nil_of_le hi,kg,nN,t_.2 (show(texts (l.filter yM)).Nodup from h2)];rfl
theorem agS (s:ByteArray)(l:List Tr)(hf:Fit ⟨42,s,0,l⟩)(A:Option Addr)(c:Nat)(w:World)(hr:Rd w ⟨42,s,0,l⟩ A c)(hid:nH s=true):
  Calls Tryz.prog 46 #[.agg #[.int .i64 42,.string s,.int .i64 0,.slice A l.length c]] w (aH w (kg 43 l&&nN (l.filter yM))):=by
 have hl:l.length≤1099511627776:=hf.len2;have uu:=yg (SizeOf.sizeOf (⟨42,s,0,l⟩:Tr));have HC:=hide hr.kids;have HTAB:=hide hr.tab;have qm:=hide (fun y (hy:y∈l)=>hf.kid (x:=(⟨42,s,0,l⟩:Tr)) hy);have FE:=hide (fun W=>aK hid (jy s Bz W));have HB0:=hide (au (Below.refl w.heap.size w) (.cells #[.int .i64 42,.string s,.int .i64 0,.slice A l.length c] 24));refine uj ?_;intro len hlen HL hlb;simp only[hlen]at HC;rw[hlen]at HB0⊢;have dI:=hide (fF 42 s 0 A len c w);clear hf hr hid hlen hl;go_enter Tryz.func46,Tryz.ntmps46;go_wp2_with (go_at_call 13;refine(FE.out _).mono ?_;rintro e w1 ⟨rfl,h1⟩;have HW1:=hide (show Below (w.heap.size+1) (w.alloc (.cells #[.int .i64 42,.string s,.int .i64 0,.slice A len c] 24)) w1 from h1.mono qo);obtain⟨b0,b1,b2,b3⟩:=dI.out _ HW1.out;clear h1);have Q0:=hide (show CQ w (w.alloc (.cells #[.int .i64 42,.string s,.int .i64 0,.slice A len c] 24)) l 0 0 (.slice none 0 0) w1 from⟨HB0.out.trans (HW1.out.mono aG),HW1.out,aqS,by simp[IY,texts],by simpa [IY,texts]using Kd.jm _ _ _ _ _,qo⟩);clear b0 b1 b2 b3;go_loopg [3,4,5] (len+1) (fun gk v3 v4 v5 wr=>∃(i:Nat) (st:Int),i≤len∧len-i<gk∧v5= .int .i64 i∧v4= .int .i64 st∧0≤st∧st≤2∧Aside0 (CQ w (w.alloc (.cells #[.int .i64 42,.string s,.int .i64 0,.slice A len c] 24)) l i st v3 wr))
 case atStart=>exact⟨0,0,Nat.zero_le _,aG,rfl,rfl,aG,aG,Q0⟩
 case round=>
  obtain⟨i,st,hi,lS,rfl,rfl,au5,Aa,J⟩:=hrel;clear Q0;refine FD ?_;intro b0 b1 b2 b3;by_cases hlt:i<len
  ·refine l7 ?_
   intro eY y hy;obtain⟨ad,A',c',rfl,dR,k0,k1,k2,k3⟩:=jO Gs (HTAB.out.below J.out.b0) hy;obtain⟨A5,c5,e5,El,Cg⟩:=Kd.bL J.out.row;subst e5;obtain⟨n5,Ah⟩:∃n5,(IY (l.take i)).length=n5:=⟨_,rfl⟩;have Y8:n5≤i:=by rw[←Ah];exact agR l i
   have xV:=hide (fun W (h:Below wr.heap.size wr W)=>IU (IY (l.take i)) y.f1 aG A5 c5 El W (kL Cg h));have g_:=qm.out y (List.mem_of_getElem? hy);have HY:=hide hy;have SN:=hide Ah;have HSM:=hide (fun w2 st' h1 h2 h3 h4=>J.out.same (w2:=w2) (st':=st') hy h1 h2 h3 h4);have jL:=hide (fun w2 v6 st' h1 h2 h3 h4=>J.out.more (w2:=w2) (v6:=v6) (st':=st') hy h1 h2 h3 h4);have sO:=hide (J.out.Y6 hy);have HSN:=hide (CQ.Y7 hy);rw[Ah]at xV HSM⊢;obtain⟨zi,hzi⟩:∃z,jE (IY (l.take i)) y.f1=z:=⟨_,rfl⟩;have EG:=hide hzi;rw[hzi]at xV;have hlt2:=fJ (x:=(⟨42,s,0,l⟩:Tr)) (List.mem_of_getElem? hy);obtain⟨yk,ys,yn,yl⟩:=y;simp only at k0 k1 k2 k3 xV;obtain⟨zn,hzn⟩:∃z,(yn != 0)=z:=⟨_,rfl⟩;obtain⟨zp,iO⟩:∃z,eP ys=z:=⟨_,rfl⟩;obtain⟨zc,hzc⟩:∃z,(ys.toList==[99,111,110,115,116,114,117,99,116,111,114])=z:=⟨_,rfl⟩;have hcc:afe ys=zc:=hzc;have qK:=hide (fun W=>m_ ys (by have:=g_.str;simp only at this;omega) W);rw[iO]at qK;by_cases h43:yk=43
   ·subst h43
    obtain⟨zt,Ec⟩:∃z,decide ((0:Int)<st)=z:=⟨_,rfl⟩;have agT:decide ((43:Int)<43+st)=zt:=by rw[←Ec,Bool.eq_iff_iff];simp only[decide_eq_true_eq];omega
    have hok:∀q,QR [(.no,.T),(.i,.E)] yl=q→BL (43+st) (⟨43,ys,yn,yl⟩:Tr)=(!zt&&(!zn&&(q&&(zp&&!zc)))):=fun q hq=>by unfold BL;simp only;rw[agT,hzn,iO,hcc,show sW (⟨43,ys,yn,yl⟩:Tr)=q from by unfold sW;simp[hq]];simp
    by_cases LH:yl.length=2
    ·skip
     obtain⟨a,b,rfl⟩:=SY LH;obtain⟨eB,A2,c2,rfl,hra,qa⟩:=sw (x:=⟨43,ys,yn,[a,b]⟩) dR (y:=a) rfl;obtain⟨A3,c3,hrb,qb⟩:=DU (x:=⟨43,ys,yn,[a,b]⟩) dR 0 (y:=b) rfl;have hza:=fJ (x:=(⟨43,ys,yn,[a,b]⟩:Tr)) (y:=a) qo;have hzb:=fJ (x:=(⟨43,ys,yn,[a,b]⟩:Tr)) (y:=b) qo;obtain⟨pa,hpa⟩:∃p,wq (.no,.T) a=p:=⟨_,rfl⟩;have HA:=hide (fun W (h:Below wr.heap.size wr W)=>show Calls Tryz.prog 91 #[nd a A2 c2] W (aH W (pa))from by rw[←hpa];exact rTO uu a aG (g_.kid (x:=(⟨43,ys,yn,[a,b]⟩:Tr)) qo) A2 c2 W (hra.below h));unfold nd at HA;obtain⟨pb,hpb⟩:∃p,Q .E b=!p:=⟨!(Q .E b),qo⟩;have HB:=hide (fun W (h:Below wr.heap.size wr W)=>show Calls Tryz.prog 40 #[nd b A3 c3] W (aH W (!pb))from by rw[←hpb];exact uu.E b aG (g_.kid (x:=(⟨43,ys,yn,[a,b]⟩:Tr)) qo) A3 c3 W (hrb.below h));unfold nd at HB;have iI:=hide (fun W (h:Below wr.heap.size wr W)=>show W.cell? eB=some (.int .i64 a.f0)∧W.cell? ⟨eB.block,eB.off+1,none⟩=some (.string a.f1)∧W.cell? ⟨eB.block,eB.off+2,none⟩=some (.int .i64 a.f2)∧W.cell? ⟨eB.block,eB.off+3,none⟩=some (.slice A2 a.f3.length c2)∧W.cell? ⟨eB.block,eB.off+4,none⟩=some (.int .i64 b.f0)∧W.cell? ⟨eB.block,eB.off+4+1,none⟩=some (.string b.f1)∧W.cell? ⟨eB.block,eB.off+4+2,none⟩=some (.int .i64 b.f2)∧W.cell? ⟨eB.block,eB.off+4+3,none⟩=some (.slice A3 b.f3.length c3)from⟨(qa.below h).1,(qa.below h).2.1,(qa.below h).2.2.1,(qa.below h).2.2.2,(qb.below h).1,(qb.below h).2.1,(qb.below h).2.2.1,(qb.below h).2.2.2⟩);simp only[List.length_cons,List.length_nil,Nat.zero_add]at k3;have pV:=hide (fun W (h:Below (wr.heap.size+1) (wr.alloc (.cells #[.int .i64 43,.string ys,.int .i64 yn,.slice (some eB) 2 c'] 24)) W)=>fF 43 ys yn (some eB) 2 c' wr W h);have o9:=hide (au (Below.refl wr.heap.size wr) (.cells #[.int .i64 43,.string ys,.int .i64 yn,.slice (some eB) 2 c'] 24));obtain⟨LJ,LK,LM,LP,apz,apA,apB,apC⟩:=iI.out _ o9.out;have iy:=hide (hok (pa&&!pb) (by rw[QR2,hpa];show(pa&&Q .E b)=_;rw[hpb]));clear hy dR g_ hlt2 hzi Cg El Ah iO hcc hra hrb qa qb hza hzb hpa hpb hok agT LH
     go_wp2_with (first
      |(go_at_call 87;(with_reducible refine(qK.out _).mono ?_);rintro e w2 ⟨rfl,h2⟩;have HD2:=hide (show Below (wr.heap.size+1) _ w2 from h2.mono qo);have HB2:=hide (o9.out.trans (HD2.out.mono aG));obtain⟨y20,y21,y22,y23⟩:=pV.out _ HD2.out;obtain⟨OZ,O1,O4,O5,apD,apE,apF,apG⟩:=iI.out _ HB2.out;clear h2)
      |(go_at_call 91;(with_reducible refine(HA.out _ HB2.out).mono ?_);rintro e w3 ⟨rfl,h3⟩;have HB3:=hide (HB2.out.trans (h3.mono HB2.out.size));have HD3:=hide (HD2.out.trans (h3.mono wm));obtain⟨y30,y31,y32,y33⟩:=pV.out _ HD3.out;obtain⟨acd,ace,acf,acg,apH,apI,apJ,apK⟩:=iI.out _ HB3.out;clear h3)
      |(go_at_call 40;(with_reducible refine(HB.out _ HB3.out).mono ?_);rintro e w4 ⟨rfl,h4⟩;have jV:=hide (HB3.out.trans (h4.mono HB3.out.size));have HD4:=hide (HD3.out.trans (h4.mono BM));obtain⟨y40,y41,y42,y43⟩:=pV.out _ HD4.out;obtain⟨au6,au7,au8,au9,au',au_,ava,avb⟩:=iI.out _ jV.out;clear h4)
      |(go_at_call 89;(with_reducible refine(xV.out _ jV.out).mono ?_);rintro e w5 ⟨rfl,h5⟩;have vB:=hide (jV.out.trans ((eD (B:=w4.heap.size) h5).mono jV.out.size));have HD5:=hide (HD4.out.trans ((eD (B:=w4.heap.size) h5).mono (by have:=HD4.out.size;simp at this;omega)));obtain⟨y50,y51,y52,y53⟩:=pV.out _ HD5.out;clear h5)
      |((with_reducible refine cO (b:= .append) (xs:=#[.tmp 133,.tmp 136]) rfl ?_);at_builtin;refine Aside0.out ?_))
     all_goals try (go_ret;first|(refine⟨aI ?_,J.out.b0.trans (vB.out.mono J.out.b0.size)⟩;rw[sO.out ?_];(try rfl);rw[iy.out];simp[*];done)|(refine⟨aI ?_,J.out.b0.trans (jV.out.mono J.out.b0.size)⟩;rw[sO.out ?_];(try rfl);rw[iy.out];simp[*];done)|(refine⟨aI ?_,J.out.b0.trans (HB3.out.mono J.out.b0.size)⟩;rw[sO.out ?_];(try rfl);rw[iy.out];simp[*];done)|(refine⟨aI ?_,J.out.b0.trans (HB2.out.mono J.out.b0.size)⟩;rw[sO.out ?_];(try rfl);rw[iy.out];simp[*];done)|(refine⟨aI ?_,J.out.b0.trans (o9.out.mono J.out.b0.size)⟩;rw[sO.out ?_];(try rfl);rw[iy.out];simp[*];done)|(refine⟨aI ?_,J.out.b0.trans (vB.out.mono J.out.b0.size)⟩;rw[HSN.out rfl ?_];(try rfl);rw[EG.out];assumption))
     refine⟨?_⟩;have Jr:=hide (J.out.b1.trans (vB.out.mono J.out.sz));have hsz:=Nat.le_trans J.out.sz vB.out.size;refine Kd.gP Kd.string (w0:=(w.alloc (.cells #[.int .i64 42,.string s,.int .i64 0,.slice (some ad) len c] 24))) (w.heap.size+1) rfl (.tmp 133) (.tmp 136) 48 9 (.string ⟨#[]⟩) 16 rfl Tryz.underlying48 Bj rfl wN aG (.slice A5 n5 c5) (IY (l.take i)) ys [.string ys] (fun k=>w.heap.size+1≤k) (fun _=>False) rfl rfl rfl (fun _ hk=>hk.elim) (fun k hk=>Nat.le_trans hsz hk) (by rw[←SN.out];exact Kd.bS J.out.row vB.out) Jr.out hsz (by rw[SN.out];omega) ?_;intro v6 w9 h1 h2 h3 h4;have hb9:Below w.heap.size w w9:=HB0.out.trans (h2.mono aG);have hs9:w.heap.size+1≤w9.heap.size:=by have:=h2.size;simpa using this
     have Q2:=hide (jL.out w9 v6 0 gu rfl rfl (by rw[EG.out];assumption) h2 hb9 hs9 h1);clear h1 h2 h3 h4 hb9 hs9 hsz;go_wp2;go_roundg (len-i)
     case measure=>omega
     case rel=>exact⟨i+1,0,aG,aG,Nb,rfl,aG,aG,Q2⟩
    ·refine IG ?_
     clear k3;intro iy jd h1 k3 fA;have pV:=hide (fun W (h:Below (wr.heap.size+1) (wr.alloc (.cells #[.int .i64 43,.string ys,.int .i64 yn,.slice A' jd c'] 24)) W)=>fF 43 ys yn A' jd c' wr W h);have o9:=hide (au (Below.refl wr.heap.size wr) (.cells #[.int .i64 43,.string ys,.int .i64 yn,.slice A' jd c'] 24));clear hy dR g_ hlt2 hzi Cg El Ah iO hcc fA hok agT LH
     go_wp2_with (first
      |(go_at_call 87;(with_reducible refine(qK.out _).mono ?_);rintro e w2 ⟨rfl,h2⟩;have HD2:=hide (show Below (wr.heap.size+1) _ w2 from h2.mono qo);have HB2:=hide (o9.out.trans (HD2.out.mono aG));obtain⟨y20,y21,y22,y23⟩:=pV.out _ HD2.out;clear h2))
     all_goals (go_ret;first|(refine⟨aI ?_,J.out.b0.trans (HB2.out.mono J.out.b0.size)⟩;rw[sO.out ?_];(try rfl);rw[iy.out];simp[*];done)|(refine⟨aI ?_,J.out.b0.trans (o9.out.mono J.out.b0.size)⟩;rw[sO.out ?_];(try rfl);rw[iy.out];simp[*];done))
   by_cases Jq:yk=44
   ·subst Jq
    obtain⟨ze,z8⟩:∃z,ys.toList.isEmpty=z:=⟨_,rfl⟩;have anm:(ys.toList==[])=ze:=by rw[←z8];cases ys.toList<;>rfl
    have hok:∀q,QR [(.i,.P),(.bk,.S)] yl=q→BL (43+st) (⟨44,ys,yn,yl⟩:Tr)=(decide (st<1)&&(!zn&&(ze&&q))):=fun q hq=>by unfold BL;simp only;rw[hzn,show sW (⟨44,ys,yn,yl⟩:Tr)=(ze&&q)from by rw[←z8];unfold sW;simp[hq]];rcases(show st=0∨st=1∨st=2 from aG)with rfl|rfl|rfl<;>simp
    by_cases hst:st=0
    ·subst hst
     by_cases LH:yl.length=2
     ·skip
      obtain⟨a,b,rfl⟩:=SY LH;obtain⟨eB,A2,c2,rfl,hra,qa⟩:=sw (x:=⟨44,ys,yn,[a,b]⟩) dR (y:=a) rfl;obtain⟨A3,c3,hrb,qb⟩:=DU (x:=⟨44,ys,yn,[a,b]⟩) dR 0 (y:=b) rfl;have hza:=fJ (x:=(⟨44,ys,yn,[a,b]⟩:Tr)) (y:=a) qo;have hzb:=fJ (x:=(⟨44,ys,yn,[a,b]⟩:Tr)) (y:=b) qo;obtain⟨pa,hpa⟩:∃p,Q .P a=p:=⟨_,rfl⟩;have HA:=hide (fun W (h:Below wr.heap.size wr W)=>show Calls Tryz.prog 90 #[nd a A2 c2,.bool false] W (aH W (pa))from by rw[←hpa];exact rPF uu a aG (g_.kid (x:=(⟨44,ys,yn,[a,b]⟩:Tr)) qo) A2 c2 W (hra.below h));unfold nd at HA;obtain⟨pb,hpb⟩:∃p,wq (.bk,.S) b=!p:=⟨!(wq (.bk,.S) b),qo⟩;have HB:=hide (fun W (h:Below wr.heap.size wr W)=>show Calls Tryz.prog 92 #[nd b A3 c3] W (aH W (!pb))from by rw[←hpb];exact rB uu b aG (g_.kid (x:=(⟨44,ys,yn,[a,b]⟩:Tr)) qo) A3 c3 W (hrb.below h));unfold nd at HB;have iI:=hide (fun W (h:Below wr.heap.size wr W)=>show W.cell? eB=some (.int .i64 a.f0)∧W.cell? ⟨eB.block,eB.off+1,none⟩=some (.string a.f1)∧W.cell? ⟨eB.block,eB.off+2,none⟩=some (.int .i64 a.f2)∧W.cell? ⟨eB.block,eB.off+3,none⟩=some (.slice A2 a.f3.length c2)∧W.cell? ⟨eB.block,eB.off+4,none⟩=some (.int .i64 b.f0)∧W.cell? ⟨eB.block,eB.off+4+1,none⟩=some (.string b.f1)∧W.cell? ⟨eB.block,eB.off+4+2,none⟩=some (.int .i64 b.f2)∧W.cell? ⟨eB.block,eB.off+4+3,none⟩=some (.slice A3 b.f3.length c3)from⟨(qa.below h).1,(qa.below h).2.1,(qa.below h).2.2.1,(qa.below h).2.2.2,(qb.below h).1,(qb.below h).2.1,(qb.below h).2.2.1,(qb.below h).2.2.2⟩);simp only[List.length_cons,List.length_nil,Nat.zero_add]at k3;have pV:=hide (fun W (h:Below (wr.heap.size+1) (wr.alloc (.cells #[.int .i64 44,.string ys,.int .i64 yn,.slice (some eB) 2 c'] 24)) W)=>fF 44 ys yn (some eB) 2 c' wr W h);have o9:=hide (au (Below.refl wr.heap.size wr) (.cells #[.int .i64 44,.string ys,.int .i64 yn,.slice (some eB) 2 c'] 24));obtain⟨LJ,LK,LM,LP,apz,apA,apB,apC⟩:=iI.out _ o9.out;have iy:=hide (hok (pa&&!pb) (by rw[QR2,hpb];show(Q .P a&&_)=_;rw[hpa]));clear hy dR g_ hlt2 hzi Cg El Ah iO hcc hra hrb qa qb hza hzb hpa hpb hok LH z8
      go_wp2_with (first
       |(go_at_call 90;(with_reducible refine(HA.out _ o9.out).mono ?_);rintro e w2 ⟨rfl,h2⟩;have HD2:=hide (show Below (wr.heap.size+1) _ w2 from h2.mono qo);have HB2:=hide (o9.out.trans (HD2.out.mono aG));obtain⟨y20,y21,y22,y23⟩:=pV.out _ HD2.out;obtain⟨OZ,O1,O4,O5,apD,apE,apF,apG⟩:=iI.out _ HB2.out;clear h2)
       |(go_at_call 92;(with_reducible refine(HB.out _ HB2.out).mono ?_);rintro e w3 ⟨rfl,h3⟩;have HB3:=hide (HB2.out.trans (h3.mono HB2.out.size));have HD3:=hide (HD2.out.trans (h3.mono wm));obtain⟨y30,y31,y32,y33⟩:=pV.out _ HD3.out;obtain⟨acd,ace,acf,acg,apH,apI,apJ,apK⟩:=iI.out _ HB3.out;clear h3))
      all_goals try (go_ret;first|(refine⟨aI ?_,J.out.b0.trans (HB3.out.mono J.out.b0.size)⟩;rw[sO.out ?_];(try rfl);rw[iy.out];simp[*];done)|(refine⟨aI ?_,J.out.b0.trans (HB2.out.mono J.out.b0.size)⟩;rw[sO.out ?_];(try rfl);rw[iy.out];simp[*];done)|(refine⟨aI ?_,J.out.b0.trans (o9.out.mono J.out.b0.size)⟩;rw[sO.out ?_];(try rfl);rw[iy.out];simp[*];done))
      have Q2:=hide (HSM.out _ 1 gu rfl rfl HB3.out);go_roundg (len-i)
      case measure=>omega
      case rel=>exact⟨i+1,1,aG,aG,Nb,rfl,aG,aG,Q2⟩
     ·refine IG ?_
      clear k3;intro iy jd h1 k3 fA;refine Zy ?_;intro pV o9;clear hy dR g_ hlt2 hzi Cg El Ah iO hcc fA hok LH z8;exact aem
    ·have h1:decide (st<1)=false:=Oi
     have iy:=hide (hok (QR [(.i,.P),(.bk,.S)] yl) rfl);rw[h1]at iy;obtain⟨jd,fA⟩:∃z,yl.length=z:=⟨_,rfl⟩;rw[fA]at k3;refine Zy ?_;intro pV o9;clear hy dR g_ hlt2 hzi Cg El Ah iO hcc fA hok z8 hst;exact aem
   by_cases h45:yk=45
   ·subst h45
    obtain⟨q,hq⟩:∃q,QR [(.i,.P),(.no,.T),(.bk,.S)] yl=!q:=⟨!QR [(.i,.P),(.no,.T),(.bk,.S)] yl,qo⟩;have hz2:decide ((2:Int)<st)=false:=Oi;have iy:=hide (show BL (43+st) (⟨45,ys,yn,yl⟩:Tr)=(!zn&&(!q&&(zp&&!zc)))from by unfold BL;simp only;rw[hzn,iO,hcc,show sW (⟨45,ys,yn,yl⟩:Tr)=!q from by unfold sW;simp[hq],show decide ((45:Int)<43+st)=false from Oi];simp);have vR:=hide (fun W (h:Below wr.heap.size wr W)=>show Calls Tryz.prog 88 #[.slice A' yl.length c'] W (aH W (!q))from by rw[←hq];exact Ze uu yl (fun z hz=>by have h1:=fJ (x:=(⟨45,ys,yn,yl⟩:Tr)) hz;omega) (fun z hz=>g_.kid (x:=(⟨45,ys,yn,yl⟩:Tr)) hz) A' c' W ⟨(dR.below h).kids,(dR.below h).cap,(dR.below h).tab⟩);obtain⟨jd,fA⟩:∃z,yl.length=z:=⟨_,rfl⟩;rw[fA]at k3 vR;have pV:=hide (fun W (h:Below (wr.heap.size+1) (wr.alloc (.cells #[.int .i64 45,.string ys,.int .i64 yn,.slice A' jd c'] 24)) W)=>fF 45 ys yn A' jd c' wr W h);have o9:=hide (au (Below.refl wr.heap.size wr) (.cells #[.int .i64 45,.string ys,.int .i64 yn,.slice A' jd c'] 24));clear hy dR g_ hlt2 hzi Cg El Ah iO hcc fA hq
    go_wp2_with (first
     |(go_at_call 87;(with_reducible refine(qK.out _).mono ?_);rintro e w2 ⟨rfl,h2⟩;have HD2:=hide (show Below (wr.heap.size+1) _ w2 from h2.mono qo);have HB2:=hide (o9.out.trans (HD2.out.mono aG));obtain⟨y20,y21,y22,y23⟩:=pV.out _ HD2.out;clear h2)
     |(go_at_call 88;(with_reducible refine(vR.out _ HB2.out).mono ?_);rintro e w3 ⟨rfl,h3⟩;have HB3:=hide (HB2.out.trans (h3.mono HB2.out.size));have HD3:=hide (HD2.out.trans (h3.mono wm));obtain⟨y30,y31,y32,y33⟩:=pV.out _ HD3.out;clear h3)
     |(go_at_call 89;(with_reducible refine(xV.out _ HB3.out).mono ?_);rintro e w4 ⟨rfl,h4⟩;have jV:=hide (HB3.out.trans ((eD (B:=w3.heap.size) h4).mono HB3.out.size));have HD4:=hide (HD3.out.trans ((eD (B:=w3.heap.size) h4).mono BM));obtain⟨y40,y41,y42,y43⟩:=pV.out _ HD4.out;clear h4)
     |((with_reducible refine cO (b:= .append) (xs:=#[.tmp 133,.tmp 136]) rfl ?_);at_builtin;refine Aside0.out ?_))
    all_goals try (go_ret;first|(refine⟨aI ?_,J.out.b0.trans (jV.out.mono J.out.b0.size)⟩;rw[sO.out ?_];(try rfl);rw[iy.out];simp[*];done)|(refine⟨aI ?_,J.out.b0.trans (HB3.out.mono J.out.b0.size)⟩;rw[sO.out ?_];(try rfl);rw[iy.out];simp[*];done)|(refine⟨aI ?_,J.out.b0.trans (HB2.out.mono J.out.b0.size)⟩;rw[sO.out ?_];(try rfl);rw[iy.out];simp[*];done)|(refine⟨aI ?_,J.out.b0.trans (o9.out.mono J.out.b0.size)⟩;rw[sO.out ?_];(try rfl);rw[iy.out];simp[*];done)|(refine⟨aI ?_,J.out.b0.trans (jV.out.mono J.out.b0.size)⟩;rw[HSN.out rfl ?_];(try rfl);rw[EG.out];assumption))
    refine⟨?_⟩;refine GV ?_;intro Jr hsz;refine Kd.gP Kd.string (w0:=(w.alloc (.cells #[.int .i64 42,.string s,.int .i64 0,.slice (some ad) len c] 24))) (w.heap.size+1) rfl (.tmp 133) (.tmp 136) 48 9 (.string ⟨#[]⟩) 16 rfl Tryz.underlying48 Bj rfl wN aG (.slice A5 n5 c5) (IY (l.take i)) ys [.string ys] (fun k=>w.heap.size+1≤k) (fun _=>False) rfl rfl rfl (fun _ hk=>hk.elim) (fun k hk=>Nat.le_trans hsz hk) Gy Jr.out hsz (by rw[SN.out];omega) ?_;intro v6 w9 h1 h2 h3 h4;have hb9:Below w.heap.size w w9:=HB0.out.trans (h2.mono aG);have hs9:w.heap.size+1≤w9.heap.size:=by have:=h2.size;simpa using this
    have Q2:=hide (jL.out w9 v6 2 gu rfl rfl (by rw[EG.out];assumption) h2 hb9 hs9 h1);clear h1 h2 h3 h4 hb9 hs9 hsz;go_wp2;go_roundg (len-i)
    case measure=>omega
    case rel=>exact⟨i+1,2,aG,aG,Nb,rfl,aG,aG,Q2⟩
   have z3:(yk==43)=false:=by simpa using h43
   have z4:(yk==44)=false:=by simpa using Jq
   have z5:(yk==45)=false:=by simpa using h45
   have iy:=hide (show BL (43+st) (⟨yk,ys,yn,yl⟩:Tr)=false from by unfold BL sW;simp[h43,Jq,h45]);obtain⟨jd,fA⟩:∃z,yl.length=z:=⟨_,rfl⟩;rw[fA]at k3;have o9:=hide (au (Below.refl wr.heap.size wr) (.cells #[.int .i64 yk,.string ys,.int .i64 yn,.slice A' jd c'] 24));clear hy dR g_ hlt2 hzi Cg El Ah iO hcc fA h43 Jq h45;go_wp2;go_ret;exact⟨aI (sO.out iy.out).symm,J.out.b0.trans (o9.out.mono J.out.b0.size)⟩
  ·exact VP
theorem akq (k:Int)(s:ByteArray)(n:Int)(A:Option Addr)(len c:Nat)(w:World)(p z0 z1:Bool)(hz0:(k != 42)=z0)(hz1:(n != 0)=z1)(hp:∀W,Calls Tryz.prog 13 #[.string s] W (aH W p))(hbad:(z0||(!p||z1))=true):
  Calls Tryz.prog 46 #[.agg #[.int .i64 k,.string s,.int .i64 n,.slice A len c]] w (aH w false):=by
 have HP:=hide hp;have HBAD:=hide hbad;clear hp hbad;refine GD ?_;intro HB0;go_enter Tryz.func46,Tryz.ntmps46;exact aev
theorem C8 (x:Tr)(hf:Fit x)(A:Option Addr)(c:Nat)(W:World)(hr:Rd W x A c):Calls Tryz.prog 46 #[nd x A c] W (aH W (l8 x)):=by
 obtain⟨k,s,n,l⟩:=x;have HI:=fun W=>jy s Bz W
 cases hg:(k==42&&(nH s&&n==0))with
 |false=>
  refine aK (b:=false) (by unfold l8;simp only;rw[hg];rfl) (akq k s n A l.length c W (nH s) _ _ rfl rfl HI ?_);revert hg;generalize nH s=v
  cases(decEq k 42)<;>cases(decEq n 0)<;>cases v<;>simp_all
 |true=>
  have hb:l8 (⟨k,s,n,l⟩:Tr)=(kg 43 l&&nN (l.filter yM)):=by unfold l8;simp only;rw[hg];rfl
  simp only[Bool.and_eq_true,beq_iff_eq]at hg;obtain⟨rfl,hid,rfl⟩:=hg;rw[hb];exact agS s l hf A c W hr hid
end Go.Proofs.YtldgmneijipbjaaGreatDoor.H
