import Derived.Test.YtldgmneijipbjaaGreatDoorBPA
import Derived.Test.YtldgmneijipbjaaGreatDoorBMac
set_option linter.unusedVariables false
set_option linter.unusedSimpArgs false
set_option maxRecDepth 100000
set_option maxHeartbeats 16000000
open Go.Proofs.YtldgmneijipbjaaGreatDoor.H
namespace Go.Proofs.YtldgmneijipbjaaGreatDoor.PScopeOwn
open Go.RowKit Go.Proofs.YtldgmneijipbjaaGreatDoorW.PrintWords Go.Proofs.YtldgmneijipbjaaGreatDoorW.PrintLast Go.Proofs.YtldgmneijipbjaaGreatDoorW.PrintMore
attribute [local go_sem] tL tN wV wW qB qC tO tQ
set_option linter.unusedVariables false
set_option linter.unusedSimpArgs false
mutual
def bE.l0:Nat→Int→Int→Int→ByteArray→Int→List (jh)→Option (Int)
 |0,_,_,_,_,_,_=>none
 |k+1,x3,x4,abl,abm,abn,u6=>if x4<(u6.length:Int)then(if 0≤x4 then((bE.f k ((dB u6 x4).f0) ((dB u6 x4).f1) ((dB u6 x4).f2) ((dB u6 x4).f3)).bind fun t154=>(bE.l0 k (wrap64 (x3+t154)) (wrap64 (x4+1)) abl abm abn u6))else(none))else(some x3)
def bE.f:Nat→Int→ByteArray→Int→List (jh)→Option (Int)
 |0,_,_,_,_=>none
 |k+1,nK,nL,nM,dU=>bE.l0 k 1 0 nK nL nM dU
end
theorem bE.calls (k:Nat):∀(nK:Int) (nL:ByteArray) (nM:Int) (wX:Option Addr) (rF:Nat) (dU:List (jh)) (r:Int) (w:World) (Br:Kd.C k24 w wX dU.length dU) (Bv:dU.length≤rF) (h:bE.f k nK nL nM dU=some r),
  Calls Tryz.prog 12 #[.agg #[.int .i64 nK,.string nL,.int .i64 nM,.slice wX dU.length rF]] w fun e w'=>e= .returned (.int .i64 r)∧Below w.heap.size w w':=by
 induction k using Nat.strongRecOn with
 |_ k ih=>
 intro nK nL nM wX rF dU r w Br Bv h
 cases k with
 |zero=>exact absurd h (by simp[bE.f])
 |succ k=>
 simp only[bE.f]at h;have aeW:=Tryz.underlying24;have Uw:=Aside0.mk Br;have aie:=Aside0.mk Bv;clear Br Bv;refine Zz ?_;intro HB;have H:(bE.l0 k 1 0 nK nL nM dU)=some r:=h;clear h;have H':=Aside0.mk H;clear H;go_enter Tryz.func12,Tryz.ntmps12;go_wp2_with (first|((with_reducible refine iY (N:=1) rfl ?_);refine qA ?hg (N:=1) ?hd (cs:=#[.int .i64 nK,.string nL,.int .i64 nM,.slice wX dU.length rF]) (t:=24) ?hr ?_;(case hd=>rfl);(case hg=>rfl);(case hr=>first|(go_simp;done)|(go_simp;rfl));intro sI hg w2 wY hb;have kM:=Aside0.mk (dK ah hb);have ny:=Aside0.mk (wY);have Bw:=Aside0.mk ((by rw[hg];exact(dF ah):w.heap.size≤sI));have Px:=Aside0.mk ((by rw[hg];exact(dF ah):w.heap.size≤sI));clear HB;have HB:=kM;have lK:=ny;have arl:=Bw;have aiI:=Px;clear kM ny Bw Px;clear hb wY hg));go_loopg [3,4] k (fun kq v3 v4 w'=>∃(qg:Int) (dZ:Int),v3= .int .i64 qg∧v4= .int .i64 dZ∧Aside0 (bE.l0 kq qg dZ nK nL nM dU=some r)∧Aside0 (kq≤k)∧Aside0 (w'.heap[sI]?=some (.cells #[.int .i64 nK,.string nL,.int .i64 nM,(.slice wX dU.length rF)] 24 (0,0)))∧Aside0 (Below w.heap.size w w'))
 case atStart=>exact⟨(1),(0),mU,mU,H',⟨Nat.le_refl _⟩,⟨uw⟩,⟨rP⟩⟩
 case round=>
  clear H'
  try clear c1
  try clear p2
  obtain⟨qg,dZ,rfl,rfl,HA,JJ,lK,HB⟩:=hrel
  cases gk with
  |zero=>exact absurd HA.out (by simp[bE.l0])
  |succ k1=>
   have H:=HA.out;clear HA;simp only[bE.l0]at H;by_cases c3:dZ<(dU.length:Int)
   ·rw[if_pos c3]at H
    have sS:decide (dZ<(dU.length:Int))=true:=decide_eq_true c3;clear c3;by_cases c4:0≤dZ
    ·rw[if_pos c4]at H
     have Fa:decide (0≤dZ)=true:=decide_eq_true c4;clear c4
     replace H:=Option.bind_eq_some_iff.mp H
     obtain⟨t154,A50,H⟩:=H
     replace H:(bE.l0 k1 (wrap64 (qg+t154)) (wrap64 (dZ+1)) nK nL nM dU)=some r:=H
     have A5:=Aside0.mk A50;clear A50;have H':=Aside0.mk H;clear H;have afK:wr.cell? ⟨sI,0,none⟩=some (.int .i64 nK):=(aj lK.out 0).trans rfl;have afL:wr.cell? ⟨sI,1,none⟩=some (.string nL):=(aj lK.out 1).trans rfl;have afM:wr.cell? ⟨sI,2,none⟩=some (.int .i64 nM):=(aj lK.out 2).trans rfl;have afN:wr.cell? ⟨sI,3,none⟩=some (.slice wX dU.length rF):=(aj lK.out 3).trans rfl;have afO:=aQ lK.out 0;have afP:=aQ lK.out 1;have afQ:=aQ lK.out 2;have afR:=aQ lK.out 3;have afS:0≤(dZ:Int):=of_decide_eq_true mR;have afT:dZ<(dU.length:Int):=of_decide_eq_true mR;obtain⟨aiJ,afU,afV,e153,Gt,Gu,Gv,Gw,Qb,Qc⟩:=MJ Uw.out dZ afS afT
     cases e153
     replace Gt:=(HB.out.cell (World.block_lt_of_cell? w _ Gt)).trans Gt
     replace Gu:=(HB.out.cell (World.block_lt_of_cell? w _ Gu)).trans Gu
     replace Gv:=(HB.out.cell (World.block_lt_of_cell? w _ Gv)).trans Gv
     replace Gw:=(HB.out.cell (World.block_lt_of_cell? w _ Gw)).trans Gw
     have abo:=Aside0.mk Qc;have abp:=Aside0.mk Qb;clear Qc Qb
     replace afS:=eq_true afS
     replace afT:=eq_true afT
     go_wp2_with (first|((with_reducible refine dM (f:=12) rfl ?_);refine jN (some 18) rfl rfl Tryz.func12 dL rfl #[.agg #[.int .i64 ((dB dU dZ).f0),.string ((dB dU dZ).f1),.int .i64 ((dB dU dZ).f2),.slice afU ((dB dU dZ).f3).length afV]] rfl aA ?_;(with_reducible refine(ih k1 vY ((dB dU dZ).f0) ((dB dU dZ).f1) ((dB dU dZ).f2) _ _ ((dB dU dZ).f3) t154 _ ?Bp ?Bq A5.out).mono ?_);(case Bp=>repeat (first|exact(Kd.rC abo.out HB.out)|(with_reducible refine Kd.ES ?_ _)|(with_reducible refine Kd.ET ?_ _)|(with_reducible refine Kd.MB ?_)));(case Bq=>exact abp.out);rintro e w7 ⟨rfl,hb⟩;refine⟨_,rfl,?_⟩;have kM:=Aside0.mk (ow (g:=sI) (o:= .cells #[.int .i64 nK,.string nL,.int .i64 nM,.slice (some aiJ) dU.length rF] 24 (0,0)) uw hb);have ny:=Aside0.mk (dK rP hb);clear lK;clear HB;have lK:=kM;have HB:=ny;clear kM ny;(try clear hb);(try clear hb2);(try clear hk);(try clear hi)));go_roundg k1
     case measure=>have:=JJ.out;omega
     case rel=>exact⟨(wrap64 (qg+t154)),(wrap64 (dZ+1)),mU,mU,H',⟨vY⟩,⟨uw⟩,⟨rP⟩⟩
    ·exact Zo
   ·rw[if_neg c3]at H
    have sS:decide (dZ<(dU.length:Int))=false:=decide_eq_false c3;clear c3;obtain rfl:=Option.some.inj H;have anN:wr.cell? ⟨sI,0,none⟩=some (.int .i64 nK):=(aj lK.out 0).trans rfl;have anO:wr.cell? ⟨sI,1,none⟩=some (.string nL):=(aj lK.out 1).trans rfl;have anP:wr.cell? ⟨sI,2,none⟩=some (.int .i64 nM):=(aj lK.out 2).trans rfl;have anQ:wr.cell? ⟨sI,3,none⟩=some (.slice wX dU.length rF):=(aj lK.out 3).trans rfl;have anR:=aQ lK.out 0;have anS:=aQ lK.out 1;have anT:=aQ lK.out 2;have anU:=aQ lK.out 3;go_wp2;go_ret;exact⟨oK,rP⟩
mutual
def av.j2:Nat→ByteArray→Int→Int→Int→Option (Int×Int)
 |0,_,_,_,_=>none
 |k+1,x0,x5,x6,x7=>if(x0.size:Int)<x5 then(some (1,(-1)))else(av.l0 k x0 x5 x6 x7 1)
def av.l0:Nat→ByteArray→Int→Int→Int→Int→Option (Int×Int)
 |0,_,_,_,_,_=>none
 |k+1,x0,x5,x6,x7,x8=>if x8<x5 then(if 0≤x8 then(if x8<(x0.size:Int)then(if(wrap64 (bt x0 x8))<128 then(some (1,(-1)))else(if(wrap64 (bt x0 x8))≥192 then(some (1,(-1)))else(av.l0 k x0 x5 x6 (wrap64 ((wrap64 ((wrap64 (x7*64))+(wrap64 (bt x0 x8))))-128)) (wrap64 (x8+1)))))else(none))else(none))else(if x7<x6 then(some (1,(-1)))else(if x7>1114111 then(some (1,(-1)))else(if x7≥55296 then(if x7<57344 then(some (1,(-1)))else(some (x5,x7)))else(some (x5,x7)))))
def av.j0:Nat→ByteArray→Int→Bool→Option (Int×Int)
 |0,_,_,_=>none
 |k+1,x0,x4,x17=>if x17=true then(av.j2 k x0 2 128 (wrap64 (x4-192)))else(if x4≥224 then(av.j1 k x0 x4 (decide (x4<240)))else(av.j1 k x0 x4 false))
def av.j1:Nat→ByteArray→Int→Bool→Option (Int×Int)
 |0,_,_,_=>none
 |k+1,x0,x4,x26=>if x26=true then(av.j2 k x0 3 2048 (wrap64 (x4-224)))else(if x4≥240 then(if x4<248 then(av.j2 k x0 4 65536 (wrap64 (x4-240)))else(some (1,(-1))))else(some (1,(-1))))
end
def av.f (k:Nat)(a0:ByteArray):Option (Int×Int):=if 0<(a0.size:Int)then(if(wrap64 (bt a0 0))<128 then(some (1,wrap64 (bt a0 0)))else(if(wrap64 (bt a0 0))≥192 then(av.j0 k a0 (wrap64 (bt a0 0)) (decide ((wrap64 (bt a0 0))<224)))else(av.j0 k a0 (wrap64 (bt a0 0)) false)))else(none)
theorem av.Ch:∀k,(∀y0 y1 y2 y3,iB (av.j2 k y0 y1 y2 y3) (av.j2 (k+1) y0 y1 y2 y3))∧(∀y0 y1 y2 y3 y4,iB (av.l0 k y0 y1 y2 y3 y4) (av.l0 (k+1) y0 y1 y2 y3 y4))∧(∀y0 y1 y2,iB (av.j0 k y0 y1 y2) (av.j0 (k+1) y0 y1 y2))∧(∀y0 y1 y2,iB (av.j1 k y0 y1 y2) (av.j1 (k+1) y0 y1 y2))
 |0=>⟨fun _ _ _ _ r h=>by simp[av.j2]at h,fun _ _ _ _ _ r h=>by simp[av.l0]at h,fun _ _ _ r h=>by simp[av.j0]at h,fun _ _ _ r h=>by simp[av.j1]at h⟩
 |k+1=>by
  obtain⟨DF,ih1,ih2,ih3⟩:=av.Ch k;refine⟨?_,?_,?_,?_⟩
  ·intro y0 y1 y2 y3
   unfold av.j2
   repeat' first
   |(with_reducible exact DF _ _ _ _)
   |(with_reducible exact ih1 _ _ _ _ _)
   |(with_reducible exact ih2 _ _ _)
   |(with_reducible exact ih3 _ _ _)
   |(with_reducible exact iB.refl _)
   |(with_reducible exact iB.none _)
   |(with_reducible refine iB.ite ?_ ?_)
   |(with_reducible refine iB.bind ?_ (fun _=>?_))
   |exact DF _ _ _ _
   |exact ih1 _ _ _ _ _
   |exact ih2 _ _ _
   |exact ih3 _ _ _
   |exact iB.none _
   |refine iB.ite ?_ ?_
   |refine iB.bind ?_ (fun _=>?_)
  ·intro y0 y1 y2 y3 y4
   unfold av.l0
   repeat' first
   |(with_reducible exact DF _ _ _ _)
   |(with_reducible exact ih1 _ _ _ _ _)
   |(with_reducible exact ih2 _ _ _)
   |(with_reducible exact ih3 _ _ _)
   |(with_reducible exact iB.refl _)
   |(with_reducible exact iB.none _)
   |(with_reducible refine iB.ite ?_ ?_)
   |(with_reducible refine iB.bind ?_ (fun _=>?_))
   |exact DF _ _ _ _
   |exact ih1 _ _ _ _ _
   |exact ih2 _ _ _
   |exact ih3 _ _ _
   |exact iB.none _
   |refine iB.ite ?_ ?_
   |refine iB.bind ?_ (fun _=>?_)
  ·intro y0 y1 y2
   unfold av.j0
   repeat' first
   |(with_reducible exact DF _ _ _ _)
   |(with_reducible exact ih1 _ _ _ _ _)
   |(with_reducible exact ih2 _ _ _)
   |(with_reducible exact ih3 _ _ _)
   |(with_reducible exact iB.refl _)
   |(with_reducible exact iB.none _)
   |(with_reducible refine iB.ite ?_ ?_)
   |(with_reducible refine iB.bind ?_ (fun _=>?_))
   |exact DF _ _ _ _
   |exact ih1 _ _ _ _ _
   |exact ih2 _ _ _
   |exact ih3 _ _ _
   |exact iB.none _
   |refine iB.ite ?_ ?_
   |refine iB.bind ?_ (fun _=>?_)
  ·intro y0 y1 y2
   unfold av.j1
   repeat' first
   |(with_reducible exact DF _ _ _ _)
   |(with_reducible exact ih1 _ _ _ _ _)
   |(with_reducible exact ih2 _ _ _)
   |(with_reducible exact ih3 _ _ _)
   |(with_reducible exact iB.refl _)
   |(with_reducible exact iB.none _)
   |(with_reducible refine iB.ite ?_ ?_)
   |(with_reducible refine iB.bind ?_ (fun _=>?_))
   |exact DF _ _ _ _
   |exact ih1 _ _ _ _ _
   |exact ih2 _ _ _
   |exact ih3 _ _ _
   |exact iB.none _
   |refine iB.ite ?_ ?_
   |refine iB.bind ?_ (fun _=>?_)
theorem av.mono:∀a0 k,iB (av.f k a0) (av.f (k+1) a0):=by
 intro a0 k;obtain⟨DF,ih1,ih2,ih3⟩:=av.Ch k;unfold av.f
 repeat' first
   |(with_reducible exact DF _ _ _ _)
   |(with_reducible exact ih1 _ _ _ _ _)
   |(with_reducible exact ih2 _ _ _)
   |(with_reducible exact ih3 _ _ _)
   |(with_reducible exact iB.refl _)
   |(with_reducible exact iB.none _)
   |(with_reducible refine iB.ite ?_ ?_)
   |(with_reducible refine iB.bind ?_ (fun _=>?_))
   |exact DF _ _ _ _
   |exact ih1 _ _ _ _ _
   |exact ih2 _ _ _
   |exact ih3 _ _ _
   |exact iB.none _
   |refine iB.ite ?_ ?_
   |refine iB.bind ?_ (fun _=>?_)
theorem av.calls (k:Nat)(a0:ByteArray)(r1:Int)(r2:Int)(w:World)(h:av.f k a0=some (r1,r2)):
  Calls Tryz.prog 52 #[.string a0] w fun e w'=>e= .returned (.tuple #[.int .i64 r1,.int .i64 r2])∧bU w w':=by
 have H:(if 0<(a0.size:Int)then(if(wrap64 (bt a0 0))<128 then(some (1,wrap64 (bt a0 0)))else(if(wrap64 (bt a0 0))≥192 then(av.j0 k a0 (wrap64 (bt a0 0)) (decide ((wrap64 (bt a0 0))<224)))else(av.j0 k a0 (wrap64 (bt a0 0)) false)))else(none))=some (r1,r2):=h;clear h;by_cases c2:0<(a0.size:Int)
 ·rw[if_pos c2]at H
  have JI:decide (0<(a0.size:Int))=true:=decide_eq_true c2;have R_:decide (0<a0.size)=true:=decide_eq_true aG;clear c2;have Uk:=Aside0.mk H;clear H;have p3:0≤(0:Int):=aG;have q3:0<a0.size:=qh;have hx3:∀h:0<a0.size,((a0[0]'h).toNat:Int)=bt a0 0:=DW a0 0;clear p3;have qi3:(0<(a0.size:Int))=True:=eq_true (of_decide_eq_true mR)
  replace q3:=eq_true q3
  go_enter Tryz.func52,Tryz.ntmps52;go_upto_block 0 with(fail)
  go_cut [5,6,7] (fun v5 v6 v7 wc=>∃(kq:Nat) (DJ:Int) (Nq:Int) (abq:Int),v5= .int .i64 DJ∧v6= .int .i64 Nq∧v7= .int .i64 abq∧Aside0 (av.j2 kq a0 DJ Nq abq=some (r1,r2))∧Aside0 (kq≤k)∧bU w wc)
  case first=>
   have H:=Uk.out;clear Uk;by_cases c5:(wrap64 (bt a0 0))<128
   ·rw[if_pos c5]at H
    have tT:decide ((wrap64 (bt a0 0))<128)=true:=decide_eq_true c5;clear c5
    (first|rw[tT]|(simp only[fU,fV];rw[tT])|skip)
    exact Ck
   ·rw[if_neg c5]at H
    have tT:decide ((wrap64 (bt a0 0))<128)=false:=decide_eq_false c5;clear c5
    (first|rw[tT]|(simp only[fU,fV];rw[tT])|skip)
    have HC6:=Aside0.mk H;clear H;go_upto_region 6 with(fail)
    go_cut [17] (fun v17 wc=>∃(kq:Nat) (Qd:Bool),v17= .bool Qd∧Aside0 (av.j0 kq a0 (wrap64 (bt a0 0)) Qd=some (r1,r2))∧Aside0 (kq≤k)∧bU w wc)
    case first=>
     have H:=HC6.out;clear HC6;by_cases c7:(wrap64 (bt a0 0))≥192
     ·rw[if_pos c7]at H
      have Gx:decide (192≤(wrap64 (bt a0 0)))=true:=decide_eq_true c7;clear c7
      (first|rw[Gx]|(simp only[fU,fV];rw[Gx])|skip)
      have H':=Aside0.mk H;clear H;go_wp2;go_meet
      case rel=>exact⟨_,(decide ((wrap64 (bt a0 0))<224)),mU,H',⟨uL⟩,BA⟩
     ·rw[if_neg c7]at H
      have Gx:decide (192≤(wrap64 (bt a0 0)))=false:=decide_eq_false c7;clear c7
      (first|rw[Gx]|(simp only[fU,fV];rw[Gx])|skip)
      have H':=Aside0.mk H;clear H;go_wp2;go_meet
      case rel=>exact⟨_,(false),mU,H',⟨uL⟩,BA⟩
    case rest=>
     clear HC6
     try clear c2
     try clear JI
     try clear R_
     try clear p2
     try clear p3
     try clear q3
     try clear hx3
     try clear qi3
     try clear c5
     try clear tT
     try clear p6
     try clear c7
     try clear Gx
     try clear p3
     try clear q3
     obtain⟨kq,Qd,rfl,HA,HJ5,⟨mc5,rfl⟩⟩:=hcut
     cases kq with
     |zero=>exact absurd HA.out (by simp[av.j0])
     |succ kj5=>
      have H:=HA.out;clear HA;simp only[av.j0]at H;by_cases c8:Qd=true
      ·subst c8
       have H1:(av.j2 kj5 a0 2 128 (wrap64 ((wrap64 (bt a0 0))-192)))=some (r1,r2):=aqR;clear H;have H:=H1;clear H1;have H':=Aside0.mk H;clear H;go_wp2;go_meet
       case rel=>exact⟨_,(2),(128),(wrap64 ((wrap64 (bt a0 0))-192)),mU,mU,mU,H',⟨OU⟩,BA⟩
      ·replace c8:=Bool.eq_false_iff.mpr c8
       subst c8;have H1:(if(wrap64 (bt a0 0))≥224 then(av.j1 kj5 a0 (wrap64 (bt a0 0)) (decide ((wrap64 (bt a0 0))<240)))else(av.j1 kj5 a0 (wrap64 (bt a0 0)) false))=some (r1,r2):=Pp;clear H;have H:=H1;clear H1;have HC9:=Aside0.mk H;clear H;go_upto_region 8 with(fail)
       go_cut [26] (fun v26 wc=>∃(kq:Nat) (Qe:Bool),v26= .bool Qe∧Aside0 (av.j1 kq a0 (wrap64 (bt a0 0)) Qe=some (r1,r2))∧Aside0 (kq≤kj5)∧bU w wc)
       case first=>
        have H:=HC9.out;clear HC9;by_cases c10:(wrap64 (bt a0 0))≥224
        ·rw[if_pos c10]at H
         have sJ:decide (224≤(wrap64 (bt a0 0)))=true:=decide_eq_true c10;clear c10
         (first|rw[sJ]|(simp only[fU,fV];rw[sJ])|skip)
         have H':=Aside0.mk H;clear H;go_wp2;go_meet
         case rel=>exact⟨_,(decide ((wrap64 (bt a0 0))<240)),mU,H',⟨OU⟩,BA⟩
        ·rw[if_neg c10]at H
         have sJ:decide (224≤(wrap64 (bt a0 0)))=false:=decide_eq_false c10;clear c10
         (first|rw[sJ]|(simp only[fU,fV];rw[sJ])|skip)
         have H':=Aside0.mk H;clear H;go_wp2;go_meet
         case rel=>exact⟨_,(false),mU,H',⟨OU⟩,BA⟩
       case rest=>
        clear HC9
        try clear c1
        try clear c2
        try clear JI
        try clear R_
        try clear p2
        try clear p3
        try clear q3
        try clear hx3
        try clear qi3
        try clear c5
        try clear tT
        try clear p6
        try clear c7
        try clear Gx
        try clear c8
        try clear c10
        try clear sJ
        try clear p2
        try clear p3
        try clear p6
        try clear q3
        obtain⟨kq,Qe,rfl,HA,HJ8,⟨mc8,rfl⟩⟩:=hcut
        cases kq with
        |zero=>exact absurd HA.out (by simp[av.j1])
        |succ kj8=>
         have H:=HA.out;clear HA;simp only[av.j1]at H;by_cases c11:Qe=true
         ·subst c11
          have H1:(av.j2 kj8 a0 3 2048 (wrap64 ((wrap64 (bt a0 0))-224)))=some (r1,r2):=aqR;clear H;have H:=H1;clear H1;have H':=Aside0.mk H;clear H;go_wp2;go_meet
          case rel=>exact⟨_,(3),(2048),(wrap64 ((wrap64 (bt a0 0))-224)),mU,mU,mU,H',⟨by have:=HJ5.out;have:=HJ8.out;first|omega|exact Nat.le_refl _⟩,BA⟩
         ·replace c11:=Bool.eq_false_iff.mpr c11
          subst c11;have H1:(if(wrap64 (bt a0 0))≥240 then(if(wrap64 (bt a0 0))<248 then(av.j2 kj8 a0 4 65536 (wrap64 ((wrap64 (bt a0 0))-240)))else(some (1,(-1))))else(some (1,(-1))))=some (r1,r2):=Pp;clear H;have H:=H1;clear H1;by_cases c12:(wrap64 (bt a0 0))≥240
          ·rw[if_pos c12]at H
           have Ep:decide (240≤(wrap64 (bt a0 0)))=true:=decide_eq_true c12;clear c12;by_cases c13:(wrap64 (bt a0 0))<248
           ·rw[if_pos c13]at H
            have Ku:decide ((wrap64 (bt a0 0))<248)=true:=decide_eq_true c13;clear c13;have H':=Aside0.mk H;clear H;go_wp2;go_meet
            case rel=>exact⟨_,(4),(65536),(wrap64 ((wrap64 (bt a0 0))-240)),mU,mU,mU,H',⟨by have:=HJ5.out;have:=HJ8.out;first|omega|exact Nat.le_refl _⟩,BA⟩
           ·rw[if_neg c13]at H
            have Ku:decide ((wrap64 (bt a0 0))<248)=false:=decide_eq_false c13;clear c13;exact Ck
          ·rw[if_neg c12]at H
           have Ep:decide (240≤(wrap64 (bt a0 0)))=false:=decide_eq_false c12;clear c12;exact Ck
  case rest=>
   clear Uk
   try clear c1
   try clear c2
   try clear JI
   try clear R_
   try clear p2
   try clear p3
   try clear q3
   try clear hx3
   try clear qi3
   try clear c5
   try clear tT
   try clear p6
   try clear c7
   try clear Gx
   try clear c8
   try clear c10
   try clear sJ
   try clear c11
   try clear c12
   try clear Ep
   try clear c13
   try clear Ku
   try clear p2
   try clear p3
   try clear p6
   try clear q3
   obtain⟨kq,DJ,Nq,abq,rfl,rfl,rfl,HA,HJ3,⟨mc3,rfl⟩⟩:=hcut
   cases kq with
   |zero=>exact absurd HA.out (by simp[av.j2])
   |succ kj3=>
    have H:=HA.out;clear HA;simp only[av.j2]at H;by_cases c14:(a0.size:Int)<DJ
    ·rw[if_pos c14]at H
     have Kv:decide ((a0.size:Int)<DJ)=true:=decide_eq_true c14;clear c14;exact Ck
    ·rw[if_neg c14]at H
     have Kv:decide ((a0.size:Int)<DJ)=false:=decide_eq_false c14;clear c14;have H':=Aside0.mk H;clear H;go_wp2;go_loopg [7,8] kj3 (fun kq v7 v8 w'=>∃(vI:Int) (om:Int),v7= .int .i64 vI∧v8= .int .i64 om∧Aside0 (av.l0 kq a0 DJ Nq vI om=some (r1,r2))∧Aside0 (kq≤kj3)∧bU w w')
     case atStart=>exact⟨(abq),(1),mU,mU,H',⟨Nat.le_refl _⟩,BA⟩
     case round=>
      clear H'
      try clear c1
      try clear c2
      try clear JI
      try clear R_
      try clear p2
      try clear c3
      try clear p3
      try clear q3
      try clear hx3
      try clear qi3
      try clear c5
      try clear tT
      try clear p6
      try clear c7
      try clear Gx
      try clear c8
      try clear c10
      try clear sJ
      try clear c11
      try clear c12
      try clear Ep
      try clear c13
      try clear Ku
      try clear c14
      try clear Kv
      try clear p2
      try clear p3
      try clear p6
      try clear q3
      obtain⟨vI,om,rfl,rfl,HA,HK2,⟨m2,rfl⟩⟩:=hrel
      cases gk with
      |zero=>exact absurd HA.out (by simp[av.l0])
      |succ k2=>
       have H:=HA.out;clear HA;simp only[av.l0]at H;by_cases c15:om<DJ
       ·rw[if_pos c15]at H
        have Er:decide (om<DJ)=true:=decide_eq_true c15;clear c15;by_cases c16:0≤om
        ·rw[if_pos c16]at H
         have aiK:decide (0≤om)=true:=decide_eq_true c16;clear c16;by_cases c17:om<(a0.size:Int)
         ·rw[if_pos c17]at H
          have arq:decide (om<(a0.size:Int))=true:=decide_eq_true c17;clear c17;by_cases c19:(wrap64 (bt a0 om))<128
          ·rw[if_pos c19]at H
           have aiL:decide ((wrap64 (bt a0 om))<128)=true:=decide_eq_true c19;clear c19;exact OE
          ·rw[if_neg c19]at H
           have aiL:decide ((wrap64 (bt a0 om))<128)=false:=decide_eq_false c19;clear c19;by_cases c20:(wrap64 (bt a0 om))≥192
           ·rw[if_pos c20]at H
            have aiM:decide (192≤(wrap64 (bt a0 om)))=true:=decide_eq_true c20;clear c20;exact OE
           ·rw[if_neg c20]at H
            have aiM:decide (192≤(wrap64 (bt a0 om)))=false:=decide_eq_false c20;clear c20;have H':=Aside0.mk H;clear H;have p18:0≤(om:Int):=of_decide_eq_true mR;have q18:om<(a0.size:Int):=of_decide_eq_true mR;have anY:=DW a0 om
            replace p18:=eq_true p18
            replace q18:=eq_true q18
            go_wp2;go_roundg k2
            case measure=>have:=HJ3.out;have:=HK2.out;omega
            case rel=>exact⟨(wrap64 ((wrap64 ((wrap64 (vI*64))+(wrap64 (bt a0 om))))-128)),(wrap64 (om+1)),mU,mU,H',⟨by have:=HJ3.out;have:=HK2.out;omega⟩,BA⟩
         ·rw[if_neg c17]at H
          exact absurd H qo
        ·rw[if_neg c16]at H
         exact absurd H qo
       ·rw[if_neg c15]at H
        have Er:decide (om<DJ)=false:=decide_eq_false c15;clear c15;by_cases c21:vI<Nq
        ·rw[if_pos c21]at H
         have VZ:decide (vI<Nq)=true:=decide_eq_true c21;clear c21;exact Ck
        ·rw[if_neg c21]at H
         have VZ:decide (vI<Nq)=false:=decide_eq_false c21;clear c21;by_cases tH:vI>1114111
         ·rw[if_pos tH]at H
          have aiO:decide (1114111<vI)=true:=decide_eq_true tH;clear tH;exact Ck
         ·rw[if_neg tH]at H
          have aiO:decide (1114111<vI)=false:=decide_eq_false tH;clear tH;by_cases c23:vI≥55296
          ·rw[if_pos c23]at H
           have V3:decide (55296≤vI)=true:=decide_eq_true c23;clear c23;by_cases c24:vI<57344
           ·rw[if_pos c24]at H
            have aiP:decide (vI<57344)=true:=decide_eq_true c24;clear c24;exact Ck
           ·rw[if_neg c24]at H
            have aiP:decide (vI<57344)=false:=decide_eq_false c24;clear c24;exact Ck
          ·rw[if_neg c23]at H
           have V3:decide (55296≤vI)=false:=decide_eq_false c23;clear c23;exact Ck
 ·rw[if_neg c2]at H
  exact absurd H qo
def aU.l0:Nat→ByteArray→List ByteArray→Bool→Option (List ByteArray×Bool)
 |0,_,_,_=>none
 |k+1,x0,x4,x5=>if x0.toList=([]:List UInt8)then(some (x4,x5))else((av.f k x0).bind fun xP=>(if x5=true then(if 0≤xP.1 then(if xP.1≤(x0.size:Int)then(if x4.length<8796093022208 then(aU.l0 k (x0.extract (xP.1:Int).toNat x0.size) (x4++[x0.extract 0 (xP.1:Int).toNat]) (decide (xP.2≥0)))else(none))else(none))else(none))else(if 0≤xP.1 then(if xP.1≤(x0.size:Int)then(if x4.length<8796093022208 then(aU.l0 k (x0.extract (xP.1:Int).toNat x0.size) (x4++[x0.extract 0 (xP.1:Int).toNat]) false)else(none))else(none))else(none))))
def aU.f (k:Nat)(a0:ByteArray):Option (List ByteArray×Bool):=aU.l0 k a0 ([]:List ByteArray) true
theorem aU.calls (k:Nat)(a0:ByteArray)(r1:List ByteArray)(r2:Bool)(w:World)(h:aU.f k a0=some (r1,r2)):
  Calls Tryz.prog 51 #[.string a0] w fun e w'=>∃Ut:Value,e= .returned (.tuple #[Ut,.bool r2])∧Kd.R Kd.string 9 w' w.heap.size (fun _=>True) Ut r1∧Below w.heap.size w w':=by
 refine Zz ?_;intro HB;have H:(aU.l0 k a0 ([]:List ByteArray) true)=some (r1,r2):=h;clear h;have H':=Aside0.mk H;clear H;go_enter Tryz.func51,Tryz.ntmps51;go_wp2;go_loopg [0,4,5] k (fun kq v0 v4 v5 w'=>∃(iA:ByteArray) (dZ:List ByteArray) (oP:Bool),v0= .string iA∧v5= .bool oP∧Aside0 (aU.l0 kq iA dZ oP=some (r1,r2))∧Aside0 (kq≤k)∧Aside0 (Kd.R Kd.string 9 w' w.heap.size (fun _=>True) v4 dZ)∧Aside0 (Below w.heap.size w w'))
 case atStart=>exact⟨(a0),(([]:List ByteArray)),(true),mU,mU,H',⟨Nat.le_refl _⟩,⟨by first|exact Kd.jm _ _ _ _ _|exact Kd.ah9 _ _ _ _ _|exact Kd.ah' _ _ _ _ _|exact Kd.ah1 _ _ _ _ _|exact Kd.ah5 _ _ _ _ _⟩,⟨ah⟩⟩
 case round=>
  clear H';obtain⟨iA,dZ,oP,rfl,rfl,HA,JJ,afY,HB⟩:=hrel
  cases gk with
  |zero=>exact absurd HA.out (by simp[aU.l0])
  |succ k1=>
   have H:=HA.out;clear HA;simp only[aU.l0]at H;by_cases c2:iA.toList=([]:List UInt8)
   ·rw[if_pos c2]at H
    have JI:(iA.toList==([]:List UInt8))=true:=beq_iff_eq.mpr c2;have R_:(iA.toList != ([]:List UInt8))=false:=bne_eq_false_iff_eq.mpr c2;clear c2;simp only[Option.some.injEq,Prod.mk.injEq]at H;obtain⟨rfl,rfl⟩:=H;go_wp2;go_ret2;exact⟨_,oK,lC,ah⟩
   ·rw[if_neg c2]at H
    have JI:(iA.toList==([]:List UInt8))=false:=beq_eq_false_iff_ne.mpr c2;have R_:(iA.toList != ([]:List UInt8))=true:=bne_iff_ne.mpr c2
    replace H:=Option.bind_eq_some_iff.mp H
    obtain⟨⟨jk,t156⟩,A30,H⟩:=H
    replace H:(if oP=true then(if 0≤jk then(if jk≤(iA.size:Int)then(if dZ.length<8796093022208 then(aU.l0 k1 (iA.extract (jk:Int).toNat iA.size) (dZ++[iA.extract 0 (jk:Int).toNat]) (decide (t156≥0)))else(none))else(none))else(none))else(if 0≤jk then(if jk≤(iA.size:Int)then(if dZ.length<8796093022208 then(aU.l0 k1 (iA.extract (jk:Int).toNat iA.size) (dZ++[iA.extract 0 (jk:Int).toNat]) false)else(none))else(none))else(none)))=some (r1,r2):=H
    have A3:=Aside0.mk A30;clear A30;by_cases c4:oP=true
    ·subst c4
     have H1:(if 0≤jk then(if jk≤(iA.size:Int)then(if dZ.length<8796093022208 then(aU.l0 k1 (iA.extract (jk:Int).toNat iA.size) (dZ++[iA.extract 0 (jk:Int).toNat]) (decide (t156≥0)))else(none))else(none))else(none))=some (r1,r2):=aqR;clear H;have H:=H1;clear H1;by_cases c5:0≤jk
     ·rw[if_pos c5]at H
      have tT:=eq_true c5;have aiQ:decide (0≤jk)=true:=decide_eq_true c5;clear c5;by_cases c6:jk≤(iA.size:Int)
      ·rw[if_pos c6]at H
       have mQ:=eq_true c6;have zZ:decide (jk≤(iA.size:Int))=true:=decide_eq_true c6;clear c6;by_cases c7:dZ.length<8796093022208
       ·rw[if_pos c7]at H
        have anZ:=Aside0.mk c7;clear c7;obtain⟨y157,hy157⟩:∃y_:List ByteArray,y_=(dZ++[iA.extract 0 (jk:Int).toNat]):=⟨_,rfl⟩
        replace H:(aU.l0 k1 (iA.extract (jk:Int).toNat iA.size) y157 (decide (t156≥0)))=some (r1,r2):=by first|(rw[hy157];with_reducible exact H)|(have tV:=(Option.bind_some _ _).symm.trans H;rw[hy157];with_reducible exact tV)|(have tV:=(Option.bind_some _ _).symm.trans H;with_reducible exact tV)|with_reducible exact H|(rw[hy157];exact H)|exact H
        have aiR:=Aside0.mk hy157;clear hy157;have afZ:=eq_true (of_decide_eq_true mR:0≤jk);have JH:=eq_true (of_decide_eq_true mR:jk≤(iA.size:Int));have H':=Aside0.mk H;clear H;go_wp2_with (first|((with_reducible refine dM (f:=52) rfl ?_);refine jN (some 12) rfl rfl Tryz.func52 dL rfl #[.string iA] rfl aA ?_;(with_reducible refine(av.calls k1 iA jk t156 _ A3.out).mono ?_);rintro e w' ⟨rfl,⟨nd,rfl⟩⟩;refine⟨_,rfl,?_⟩)|((with_reducible refine cO (b:= .append) (xs:=#[.tmp 20,.tmp 24]) rfl ?_);at_builtin;refine Kd.gP Kd.string (w0:=w) w.heap.size rfl (.tmp 20) (.tmp 24) 48 9 (.string ⟨#[]⟩) 16 rfl Tryz.underlying48 Bj rfl wN aG u4 dZ (iA.extract 0 (jk:Int).toNat) [.string (iA.extract 0 (jk:Int).toNat)] (fun _=>True) (fun _=>False) rfl rfl ?aP (fun _ hk=>hk.elim) ?aF ?aO ?aB ?aS ?aL ?_;(case aP=>exact rfl);(case aB=>exact ah);(case aF=>exact(fun _ _=>trivial));(case aO=>exact lC);(case aS=>exact(dF ah));(case aL=>have:=anZ.out;omega);intro atU Gl ho hb hg hat;rw[←aiR.out]at ho;have kM:=Aside0.mk (hb);have ny:=Aside0.mk (ho);clear HB;clear afY;have HB:=kM;have aiS:=ny;clear kM ny;clear ho hb hg hat));go_roundg k1
        case measure=>have:=JJ.out;omega
        case rel=>exact⟨(iA.extract (jk:Int).toNat iA.size),(y157),(decide (t156≥0)),mU,mU,H',⟨vY⟩,⟨by(with_reducible repeat (first|apply Kd.iU|apply Kd.jq|apply Kd.kY));exact aiS.out⟩,⟨ah⟩⟩
       ·rw[if_neg c7]at H
        exact absurd H qo
      ·rw[if_neg c6]at H
       exact absurd H qo
     ·exact Y2
    ·replace c4:=Bool.eq_false_iff.mpr c4
     subst c4;have H1:(if 0≤jk then(if jk≤(iA.size:Int)then(if dZ.length<8796093022208 then(aU.l0 k1 (iA.extract (jk:Int).toNat iA.size) (dZ++[iA.extract 0 (jk:Int).toNat]) false)else(none))else(none))else(none))=some (r1,r2):=Pp;clear H;have H:=H1;clear H1;by_cases c11:0≤jk
     ·rw[if_pos c11]at H
      have ady:=eq_true c11;have adz:decide (0≤jk)=true:=decide_eq_true c11;clear c11;by_cases c12:jk≤(iA.size:Int)
      ·rw[if_pos c12]at H
       have Ep:=eq_true c12;have aru:decide (jk≤(iA.size:Int))=true:=decide_eq_true c12;clear c12;by_cases c13:dZ.length<8796093022208
       ·rw[if_pos c13]at H
        have aiT:=Aside0.mk c13;clear c13;obtain⟨y160,hy160⟩:∃y_:List ByteArray,y_=(dZ++[iA.extract 0 (jk:Int).toNat]):=⟨_,rfl⟩
        replace H:(aU.l0 k1 (iA.extract (jk:Int).toNat iA.size) y160 false)=some (r1,r2):=by first|(rw[hy160];with_reducible exact H)|(have tV:=(Option.bind_some _ _).symm.trans H;rw[hy160];with_reducible exact tV)|(have tV:=(Option.bind_some _ _).symm.trans H;with_reducible exact tV)|with_reducible exact H|(rw[hy160];exact H)|exact H
        have aiU:=Aside0.mk hy160;clear hy160;have Kv:=eq_true (of_decide_eq_true mR:0≤jk);have Er:=eq_true (of_decide_eq_true mR:jk≤(iA.size:Int));have H':=Aside0.mk H;clear H;go_wp2_with (first|((with_reducible refine dM (f:=52) rfl ?_);refine jN (some 12) rfl rfl Tryz.func52 dL rfl #[.string iA] rfl aA ?_;(with_reducible refine(av.calls k1 iA jk t156 _ A3.out).mono ?_);rintro e w' ⟨rfl,⟨nd,rfl⟩⟩;refine⟨_,rfl,?_⟩)|((with_reducible refine cO (b:= .append) (xs:=#[.tmp 20,.tmp 24]) rfl ?_);at_builtin;refine Kd.gP Kd.string (w0:=w) w.heap.size rfl (.tmp 20) (.tmp 24) 48 9 (.string ⟨#[]⟩) 16 rfl Tryz.underlying48 Bj rfl wN aG u4 dZ (iA.extract 0 (jk:Int).toNat) [.string (iA.extract 0 (jk:Int).toNat)] (fun _=>True) (fun _=>False) rfl rfl ?aP (fun _ hk=>hk.elim) ?aF ?aO ?aB ?aS ?aL ?_;(case aP=>exact rfl);(case aB=>exact ah);(case aF=>exact(fun _ _=>trivial));(case aO=>exact lC);(case aS=>exact(dF ah));(case aL=>have:=aiT.out;omega);intro atV w16 ho hb hg hat;rw[←aiU.out]at ho;have kM:=Aside0.mk (hb);have ny:=Aside0.mk (ho);clear HB;clear afY;have HB:=kM;have aiV:=ny;clear kM ny;clear ho hb hg hat));go_roundg k1
        case measure=>have:=JJ.out;omega
        case rel=>exact⟨(iA.extract (jk:Int).toNat iA.size),(y160),(false),mU,mU,H',⟨vY⟩,⟨by(with_reducible repeat (first|apply Kd.iU|apply Kd.jq|apply Kd.kY));exact aiV.out⟩,⟨ah⟩⟩
       ·rw[if_neg c13]at H
        exact absurd H qo
      ·rw[if_neg c12]at H
       exact absurd H qo
     ·rw[if_neg c11]at H
      exact absurd H qo
mutual
def aJ.j0:Nat→Int→Bool→Option (Bool)
 |0,_,_=>none
 |k+1,x0,x3=>if x3=true then(aJ.j1 k x0 x3)else(if x0≥65 then(aJ.j1 k x0 (decide (x0≤90)))else(aJ.j1 k x0 false))
def aJ.j1:Nat→Int→Bool→Option (Bool)
 |0,_,_=>none
 |k+1,x0,x3=>if x3=true then(some true)else(if x0≥192 then(aJ.j2 k x0 (decide (x0≤591)))else(aJ.j2 k x0 false))
def aJ.j2:Nat→Int→Bool→Option (Bool)
 |0,_,_=>none
 |k+1,x0,x16=>if x16=true then(if x0=215 then(some false)else(some (x0 != 247)))else(if x0≥913 then(if x0≤969 then(some (x0 != 930))else(if x0≥1040 then(some (decide (x0≤1103)))else(some false)))else(if x0≥1040 then(some (decide (x0≤1103)))else(some false)))
end
def aJ.f (k:Nat)(a0:Int):Option (Bool):=if a0≥97 then(aJ.j0 k a0 (decide (a0≤122)))else(aJ.j0 k a0 false)
theorem aJ.Ch:∀k,(∀y0 y1,iB (aJ.j0 k y0 y1) (aJ.j0 (k+1) y0 y1))∧(∀y0 y1,iB (aJ.j1 k y0 y1) (aJ.j1 (k+1) y0 y1))∧(∀y0 y1,iB (aJ.j2 k y0 y1) (aJ.j2 (k+1) y0 y1))
 |0=>⟨fun _ _ r h=>by simp[aJ.j0]at h,fun _ _ r h=>by simp[aJ.j1]at h,fun _ _ r h=>by simp[aJ.j2]at h⟩
 |k+1=>by
  obtain⟨DF,ih1,ih2⟩:=aJ.Ch k;refine⟨?_,?_,?_⟩
  ·intro y0 y1
   unfold aJ.j0
   repeat' first
   |(with_reducible exact DF _ _)
   |(with_reducible exact ih1 _ _)
   |(with_reducible exact ih2 _ _)
   |(with_reducible exact iB.refl _)
   |(with_reducible exact iB.none _)
   |(with_reducible refine iB.ite ?_ ?_)
   |(with_reducible refine iB.bind ?_ (fun _=>?_))
   |exact DF _ _
   |exact ih1 _ _
   |exact ih2 _ _
   |exact iB.none _
   |refine iB.ite ?_ ?_
   |refine iB.bind ?_ (fun _=>?_)
  ·intro y0 y1
   unfold aJ.j1
   repeat' first
   |(with_reducible exact DF _ _)
   |(with_reducible exact ih1 _ _)
   |(with_reducible exact ih2 _ _)
   |(with_reducible exact iB.refl _)
   |(with_reducible exact iB.none _)
   |(with_reducible refine iB.ite ?_ ?_)
   |(with_reducible refine iB.bind ?_ (fun _=>?_))
   |exact DF _ _
   |exact ih1 _ _
   |exact ih2 _ _
   |exact iB.none _
   |refine iB.ite ?_ ?_
   |refine iB.bind ?_ (fun _=>?_)
  ·intro y0 y1
   unfold aJ.j2
   repeat' first
   |(with_reducible exact DF _ _)
   |(with_reducible exact ih1 _ _)
   |(with_reducible exact ih2 _ _)
   |(with_reducible exact iB.refl _)
   |(with_reducible exact iB.none _)
   |(with_reducible refine iB.ite ?_ ?_)
   |(with_reducible refine iB.bind ?_ (fun _=>?_))
   |exact DF _ _
   |exact ih1 _ _
   |exact ih2 _ _
   |exact iB.none _
   |refine iB.ite ?_ ?_
   |refine iB.bind ?_ (fun _=>?_)
theorem aJ.mono:∀a0 k,iB (aJ.f k a0) (aJ.f (k+1) a0):=by
 intro a0 k;obtain⟨DF,ih1,ih2⟩:=aJ.Ch k;unfold aJ.f
 repeat' first
   |(with_reducible exact DF _ _)
   |(with_reducible exact ih1 _ _)
   |(with_reducible exact ih2 _ _)
   |(with_reducible exact iB.refl _)
   |(with_reducible exact iB.none _)
   |(with_reducible refine iB.ite ?_ ?_)
   |(with_reducible refine iB.bind ?_ (fun _=>?_))
   |exact DF _ _
   |exact ih1 _ _
   |exact ih2 _ _
   |exact iB.none _
   |refine iB.ite ?_ ?_
   |refine iB.bind ?_ (fun _=>?_)
theorem aJ.calls (k:Nat)(a0:Int)(r:Bool)(w:World)(h:aJ.f k a0=some r):
  Calls Tryz.prog 53 #[.int .i64 a0] w fun e w'=>e= .returned (.bool r)∧bU w w':=by
 have H:(if a0≥97 then(aJ.j0 k a0 (decide (a0≤122)))else(aJ.j0 k a0 false))=some r:=h;clear h;have sD:=Aside0.mk H;clear H;go_enter Tryz.func53,Tryz.ntmps53;go_upto_region 1 with(fail)
 go_cut [3] (fun v3 wc=>∃(kq:Nat) (qg:Bool),v3= .bool qg∧Aside0 (aJ.j0 kq a0 qg=some r)∧Aside0 (kq≤k)∧bU w wc)
 case first=>
  exact iZ
 case rest=>
  clear sD
  try clear p2
  try clear c3
  try clear sS
  obtain⟨kq,qg,rfl,HA,HJ1,⟨mc1,rfl⟩⟩:=hcut
  cases kq with
  |zero=>exact absurd HA.out (by simp[aJ.j0])
  |succ kj1=>
   have H:=HA.out;clear HA;simp only[aJ.j0]at H;have Uk:=Aside0.mk H;clear H;go_upto_if 3 with(fail)
   go_cut [3] (fun v3 wc=>∃(kq:Nat) (E_:Bool),v3= .bool E_∧Aside0 (aJ.j1 kq a0 E_=some r)∧Aside0 (kq≤kj1)∧bU w wc)
   case first=>
    have H:=Uk.out;clear Uk;by_cases c5:qg=true
    ·subst c5
     have H1:(aJ.j1 kj1 a0 true)=some r:=aqR;exact OC
    ·replace c5:=Bool.eq_false_iff.mpr c5
     subst c5;have H1:(if a0≥65 then(aJ.j1 kj1 a0 (decide (a0≤90)))else(aJ.j1 kj1 a0 false))=some r:=Pp;exact Ow
   case rest=>
    clear Uk
    try clear c1
    try clear p2
    try clear c3
    try clear sS
    try clear c5
    try clear c6
    try clear mQ
    try clear p2
    obtain⟨kq,E_,rfl,HA,HJ3,⟨mc3,rfl⟩⟩:=hcut
    cases kq with
    |zero=>exact absurd HA.out (by simp[aJ.j1])
    |succ kj3=>
     have H:=HA.out;clear HA;simp only[aJ.j1]at H;by_cases c7:E_=true
     ·exact X5
     ·replace c7:=Bool.eq_false_iff.mpr c7
      subst c7;have H1:(if a0≥192 then(aJ.j2 kj3 a0 (decide (a0≤591)))else(aJ.j2 kj3 a0 false))=some r:=Pp;clear H;have H:=H1;clear H1;have HC8:=Aside0.mk H;clear H;go_upto_region 4 with(fail)
      go_cut [16] (fun v16 wc=>∃(kq:Nat) (zN:Bool),v16= .bool zN∧Aside0 (aJ.j2 kq a0 zN=some r)∧Aside0 (kq≤kj3)∧bU w wc)
      case first=>
       exact OV
      case rest=>
       clear HC8
       try clear c1
       try clear p2
       try clear c3
       try clear sS
       try clear c5
       try clear c6
       try clear mQ
       try clear c7
       try clear c9
       try clear JH
       try clear p2
       obtain⟨kq,zN,rfl,HA,HJ7,⟨mc7,rfl⟩⟩:=hcut
       cases kq with
       |zero=>exact absurd HA.out (by simp[aJ.j2])
       |succ kj7=>
        have H:=HA.out;clear HA;simp only[aJ.j2]at H;exact vQ
mutual
def aD.j0:Nat→List ByteArray→Bool→Option (Bool)
 |0,_,_=>none
 |k+1,x3,x29=>if x29=true then(some false)else(aD.l0 k x3 0)
def aD.l0:Nat→List ByteArray→Int→Option (Bool)
 |0,_,_=>none
 |k+1,x3,x5=>if x5<(x3.length:Int)then(if 0≤x5 then((av.f k (iq ByteArray.empty x3 x5)).bind fun Kw=>((aJ.f k Kw.2).bind fun Sb=>(if Sb=true then(aD.l0 k x3 (wrap64 (x5+1)))else(if Kw.2=95 then(aD.l0 k x3 (wrap64 (x5+1)))else(if Kw.2=36 then(aD.l0 k x3 (wrap64 (x5+1)))else(if Kw.2≥48 then(if Kw.2≤57 then(aD.l0 k x3 (wrap64 (x5+1)))else(some false))else(some false)))))))else(none))else(some true)
end
def aD.f (k:Nat)(a0:ByteArray):Option (Bool):=(aU.f k a0).bind fun qP=>(if qP.2=true then(if(qP.1.length:Int)=0 then(aD.j0 k qP.1 true)else(if 0<(a0.size:Int)then(if(bt a0 0)≥48 then(aD.j0 k qP.1 (decide ((bt a0 0)≤57)))else(aD.j0 k qP.1 false))else(none)))else(aD.j0 k qP.1 true))
theorem aD.calls (k:Nat)(a0:ByteArray)(r:Bool)(w:World)(h:aD.f k a0=some r):
  Calls Tryz.prog 25 #[.string a0] w fun e w'=>e= .returned (.bool r)∧Below w.heap.size w w':=by
 refine Zz ?_;intro HB;have H:((aU.f k a0).bind fun qP=>(if qP.2=true then(if(qP.1.length:Int)=0 then(aD.j0 k qP.1 true)else(if 0<(a0.size:Int)then(if(bt a0 0)≥48 then(aD.j0 k qP.1 (decide ((bt a0 0)≤57)))else(aD.j0 k qP.1 false))else(none)))else(aD.j0 k qP.1 true)))=some r:=h;clear h
 replace H:=Option.bind_eq_some_iff.mp H
 obtain⟨⟨iD,t164⟩,V4,H⟩:=H
 replace H:(if t164=true then(if(iD.length:Int)=0 then(aD.j0 k iD true)else(if 0<(a0.size:Int)then(if(bt a0 0)≥48 then(aD.j0 k iD (decide ((bt a0 0)≤57)))else(aD.j0 k iD false))else(none)))else(aD.j0 k iD true))=some r:=H
 have A2:=Aside0.mk V4;clear V4;have HC3:=Aside0.mk H;clear H;go_enter Tryz.func25,Tryz.ntmps25;go_upto_region 2 with(first|((with_reducible refine dM (f:=51) rfl ?_);refine jN (some 10) rfl rfl Tryz.func51 dL rfl #[.string a0] rfl aA ?_;(with_reducible refine(aU.calls k a0 iD t164 _ A2.out).mono ?_);rintro e w4 ⟨aiW,rfl,ho0,hb⟩;refine⟨_,rfl,?_⟩;have kM:=Aside0.mk (Kd.jK ho0 (dF ah));have ny:=Aside0.mk (dK ah hb);clear HB;have Ky:=kM;have HB:=ny;clear kM ny;(try clear hb);(try clear hb2);(try clear hk);(try clear hi);(try clear ho0)))
 (try simp only[Act.put,List.setIfInBounds_toArray,List.set_cons_zero,List.set_cons_succ])
 go_cut [29] (fun v29 wc=>∃(kq:Nat) (Qf:Bool),v29= .bool Qf∧Aside0 (aD.j0 kq iD Qf=some r)∧Aside0 (kq≤k)∧Aside0 (Kd.R Kd.string 9 wc w.heap.size (fun _=>True) aiW iD)∧Aside0 (Below w.heap.size w wc))
 case first=>
  have H:=HC3.out;clear HC3;by_cases c5:t164=true
  ·subst c5
   have H1:(if(iD.length:Int)=0 then(aD.j0 k iD true)else(if 0<(a0.size:Int)then(if(bt a0 0)≥48 then(aD.j0 k iD (decide ((bt a0 0)≤57)))else(aD.j0 k iD false))else(none)))=some r:=aqR;clear H;have H:=H1;clear H1;by_cases c6:(iD.length:Int)=0
   ·rw[if_pos c6]at H
    have mQ:((iD.length:Int)==0)=true:=beq_iff_eq.mpr c6;have zZ:((iD.length:Int) != 0)=false:=bne_eq_false_iff_eq.mpr c6;clear c6
    (first|rw[mQ]|(simp only[fU,fV];rw[mQ])|skip)
    have H':=Aside0.mk H;clear H;obtain⟨Ao7,co7,eo7⟩:=Kd.iJ Ky.out;subst eo7;exact WI
   ·rw[if_neg c6]at H
    have mQ:((iD.length:Int)==0)=false:=beq_eq_false_iff_ne.mpr c6;have zZ:((iD.length:Int) != 0)=true:=bne_iff_ne.mpr c6;have aiY:¬(iD=[]):=fun h_=>c6 (by rw[h_];rfl)
    (first|rw[mQ]|(simp only[fU,fV];rw[mQ])|skip)
    by_cases c8:0<(a0.size:Int)
    ·rw[if_pos c8]at H
     have afZ:decide (0<(a0.size:Int))=true:=decide_eq_true c8;have aiZ:decide (0<a0.size)=true:=decide_eq_true aG;clear c8;by_cases c10:(bt a0 0)≥48
     ·rw[if_pos c10]at H
      have sJ:decide (48≤(bt a0 0))=true:=decide_eq_true c10;clear c10;have H':=Aside0.mk H;clear H;obtain⟨atW,atX,an0⟩:=Kd.iJ Ky.out;subst an0;refine OG ?_;intro q9 hx9 qi9
      replace q9:=eq_true q9
      have p11:0≤(0:Int):=aG;have q11:0<a0.size:=qh;have ai3:∀h:0<a0.size,((a0[0]'h).toNat:Int)=bt a0 0:=DW a0 0;clear p11;have ai4:(0<(a0.size:Int))=True:=eq_true (of_decide_eq_true mR)
      replace q11:=eq_true q11
      go_wp2;go_meet
      case rel=>exact⟨_,(decide ((bt a0 0)≤57)),mU,H',⟨uL⟩,⟨wK⟩,⟨ah⟩⟩
     ·rw[if_neg c10]at H
      have sJ:decide (48≤(bt a0 0))=false:=decide_eq_false c10;clear c10;have H':=Aside0.mk H;clear H;obtain⟨atY,atZ,an1⟩:=Kd.iJ Ky.out;subst an1;refine OG ?_;intro q9 hx9 qi9
      replace q9:=eq_true q9
      go_wp2;go_meet
      case rel=>exact⟨_,(false),mU,H',⟨uL⟩,⟨wK⟩,⟨ah⟩⟩
    ·rw[if_neg c8]at H
     exact absurd H qo
  ·replace c5:=Bool.eq_false_iff.mpr c5
   subst c5;have H1:(aD.j0 k iD true)=some r:=Pp;clear H;have H:=H1;clear H1;have H':=Aside0.mk H;clear H;exact WI
 case rest=>
  clear HC3
  try clear c1
  try clear p1
  try clear q1
  try clear hx1
  try clear qi1
  try clear c2
  try clear p2
  try clear c5
  try clear c6
  try clear mQ
  try clear zZ
  try clear aiY
  try clear c8
  try clear afZ
  try clear aiZ
  try clear p9
  try clear q9
  try clear hx9
  try clear qi9
  try clear c10
  try clear sJ
  try clear p11
  try clear q11
  try clear ai3
  try clear ai4
  try clear p11
  try clear p9
  try clear q11
  try clear q9
  obtain⟨kq,Qf,rfl,HA,HJ2,oQ,HB⟩:=hcut
  cases kq with
  |zero=>exact absurd HA.out (by simp[aD.j0])
  |succ kj2=>
   have H:=HA.out;clear HA;simp only[aD.j0]at H;by_cases c14:Qf=true
   ·subst c14
    have H1:(some false)=some r:=aqR;clear H;have H:=H1;clear H1;obtain rfl:=Option.some.inj H;go_wp2;exact adX
   ·replace c14:=Bool.eq_false_iff.mpr c14
    subst c14;have H1:(aD.l0 kj2 iD 0)=some r:=Pp;clear H;have H:=H1;clear H1;have H':=Aside0.mk H;clear H;go_wp2;go_loopg [5] kj2 (fun kq v5 w'=>∃(jJ:Int),v5= .int .i64 jJ∧Aside0 (aD.l0 kq iD jJ=some r)∧Aside0 (kq≤kj2)∧Aside0 (Kd.R Kd.string 9 w' w.heap.size (fun _=>True) aiW iD)∧Aside0 (Below w.heap.size w w'))
    case atStart=>exact⟨(0),mU,H',⟨Nat.le_refl _⟩,⟨aZ⟩,⟨ah⟩⟩
    case round=>
     clear H'
     try clear c1
     try clear p1
     try clear q1
     try clear hx1
     try clear qi1
     try clear c2
     try clear p2
     try clear c5
     try clear c6
     try clear mQ
     try clear zZ
     try clear aiY
     try clear c8
     try clear afZ
     try clear aiZ
     try clear p9
     try clear q9
     try clear hx9
     try clear qi9
     try clear c10
     try clear sJ
     try clear p11
     try clear q11
     try clear ai3
     try clear ai4
     try clear c14
     try clear p1
     try clear p11
     try clear p2
     try clear p9
     try clear q1
     try clear q11
     try clear q9
     obtain⟨jJ,rfl,HA,HK2,oQ,HB⟩:=hrel
     cases gk with
     |zero=>exact absurd HA.out (by simp[aD.l0])
     |succ k2=>
      have H:=HA.out;clear HA;simp only[aD.l0]at H;by_cases c15:jJ<(iD.length:Int)
      ·rw[if_pos c15]at H
       have Er:decide (jJ<(iD.length:Int))=true:=decide_eq_true c15;clear c15;by_cases c16:0≤jJ
       ·rw[if_pos c16]at H
        have aiK:decide (0≤jJ)=true:=decide_eq_true c16;clear c16
        replace H:=Option.bind_eq_some_iff.mp H
        obtain⟨⟨t168,jB⟩,ai5,H⟩:=H
        replace H:((aJ.f k2 jB).bind fun Sb=>(if Sb=true then(aD.l0 k2 iD (wrap64 (jJ+1)))else(if jB=95 then(aD.l0 k2 iD (wrap64 (jJ+1)))else(if jB=36 then(aD.l0 k2 iD (wrap64 (jJ+1)))else(if jB≥48 then(if jB≤57 then(aD.l0 k2 iD (wrap64 (jJ+1)))else(some false))else(some false))))))=some r:=H
        have A17:=Aside0.mk ai5;clear ai5
        replace H:=Option.bind_eq_some_iff.mp H
        obtain⟨Sb,ai6,H⟩:=H
        replace H:(if Sb=true then(aD.l0 k2 iD (wrap64 (jJ+1)))else(if jB=95 then(aD.l0 k2 iD (wrap64 (jJ+1)))else(if jB=36 then(aD.l0 k2 iD (wrap64 (jJ+1)))else(if jB≥48 then(if jB≤57 then(aD.l0 k2 iD (wrap64 (jJ+1)))else(some false))else(some false)))))=some r:=H
        have A18:=Aside0.mk ai6;clear ai6;by_cases c19:Sb=true
        ·subst c19
         have H1:(aD.l0 k2 iD (wrap64 (jJ+1)))=some r:=aqR;clear H;have H:=H1;clear H1;have H':=Aside0.mk H;clear H;obtain⟨at1,at5,an5⟩:=Kd.iJ oQ.out;subst an5;have Ci:0≤(jJ:Int):=of_decide_eq_true mR;have Cj:jJ<(iD.length:Int):=of_decide_eq_true mR;obtain⟨adA,e167,Qg⟩:=Kd.mO (Kd.gQ oQ.out).2.2 jJ Ci Cj
         cases e167
         replace Ci:=eq_true Ci
         replace Cj:=eq_true Cj
         go_wp2_with (first|((with_reducible refine dM (f:=52) rfl ?_);refine jN (some 41) rfl rfl Tryz.func52 dL rfl #[.string (iq ByteArray.empty iD jJ)] rfl aA ?_;(with_reducible refine(av.calls k2 (iq ByteArray.empty iD jJ) t168 jB _ A17.out).mono ?_);rintro e w' ⟨rfl,⟨nd,rfl⟩⟩;refine⟨_,rfl,?_⟩)|((with_reducible refine dM (f:=53) rfl ?_);refine jN (some 45) rfl rfl Tryz.func53 dL rfl #[.int .i64 jB] rfl aA ?_;(with_reducible refine(aJ.calls k2 jB true _ A18.out).mono ?_);rintro e w' ⟨rfl,⟨nd,rfl⟩⟩;refine⟨_,rfl,?_⟩));go_roundg k2
         case measure=>have:=HJ2.out;have:=HK2.out;omega
         case rel=>exact⟨(wrap64 (jJ+1)),mU,H',⟨by have:=HJ2.out;have:=HK2.out;omega⟩,⟨aZ⟩,⟨ah⟩⟩
        ·replace c19:=Bool.eq_false_iff.mpr c19
         subst c19;have H1:(if jB=95 then(aD.l0 k2 iD (wrap64 (jJ+1)))else(if jB=36 then(aD.l0 k2 iD (wrap64 (jJ+1)))else(if jB≥48 then(if jB≤57 then(aD.l0 k2 iD (wrap64 (jJ+1)))else(some false))else(some false))))=some r:=Pp;clear H;have H:=H1;clear H1;by_cases c21:jB=95
         ·rw[if_pos c21]at H
          have VZ:(jB==95)=true:=beq_iff_eq.mpr c21;have ai7:(jB != 95)=false:=bne_eq_false_iff_eq.mpr c21;clear c21;have H':=Aside0.mk H;clear H;obtain⟨at6,at7,an6⟩:=Kd.iJ oQ.out;subst an6;exact V9
         ·rw[if_neg c21]at H
          have VZ:(jB==95)=false:=beq_eq_false_iff_ne.mpr c21;have ai7:(jB != 95)=true:=bne_iff_ne.mpr c21;by_cases c23:jB=36
          ·rw[if_pos c23]at H
           have V3:(jB==36)=true:=beq_iff_eq.mpr c23;have ai8:(jB != 36)=false:=bne_eq_false_iff_eq.mpr c23;clear c23;have H':=Aside0.mk H;clear H;obtain⟨aua,aub,an7⟩:=Kd.iJ oQ.out;subst an7;exact V9
          ·rw[if_neg c23]at H
           have V3:(jB==36)=false:=beq_eq_false_iff_ne.mpr c23;have ai8:(jB != 36)=true:=bne_iff_ne.mpr c23;by_cases c25:jB≥48
           ·rw[if_pos c25]at H
            have ai9:decide (48≤jB)=true:=decide_eq_true c25;clear c25;by_cases c26:jB≤57
            ·rw[if_pos c26]at H
             have ai':decide (jB≤57)=true:=decide_eq_true c26;clear c26;have H':=Aside0.mk H;clear H;obtain⟨auc,aud,an8⟩:=Kd.iJ oQ.out;subst an8;exact V9
            ·rw[if_neg c26]at H
             have ai':decide (jB≤57)=false:=decide_eq_false c26;clear c26;obtain rfl:=Option.some.inj H;obtain⟨aue,auf,an9⟩:=Kd.iJ oQ.out;subst an9;exact Uo
           ·rw[if_neg c25]at H
            have ai9:decide (48≤jB)=false:=decide_eq_false c25;clear c25;obtain rfl:=Option.some.inj H;obtain⟨aug,auh,an'⟩:=Kd.iJ oQ.out;subst an';exact Uo
       ·rw[if_neg c16]at H
        exact absurd H qo
      ·rw[if_neg c15]at H
       have Er:decide (jJ<(iD.length:Int))=false:=decide_eq_false c15;clear c15;obtain rfl:=Option.some.inj H;obtain⟨aui,auj,an_⟩:=Kd.iJ oQ.out;subst an_;go_wp2;exact adX
def bF.l0:Nat→ByteArray→List ByteArray→Int→Option (Bool)
 |0,_,_,_=>none
 |k+1,x0,x3,x4=>if x4<(x3.length:Int)then(if 0≤x4 then(if(iq ByteArray.empty x3 x4).toList=x0.toList then(some true)else(bF.l0 k x0 x3 (wrap64 (x4+1))))else(none))else(some false)
def bF.f (k:Nat)(a0:ByteArray):Option (Bool):=bF.l0 k a0 (([(⟨#[108,101,116]⟩:ByteArray),(⟨#[99,111,110,115,116]⟩:ByteArray),(⟨#[102,117,110,99,116,105,111,110]⟩:ByteArray),(⟨#[99,108,97,115,115]⟩:ByteArray),(⟨#[105,102]⟩:ByteArray),(⟨#[101,108,115,101]⟩:ByteArray),(⟨#[119,104,105,108,101]⟩:ByteArray),(⟨#[114,101,116,117,114,110]⟩:ByteArray),(⟨#[116,104,114,111,119]⟩:ByteArray),(⟨#[110,101,119]⟩:ByteArray),(⟨#[116,104,105,115]⟩:ByteArray),(⟨#[110,117,108,108]⟩:ByteArray),(⟨#[117,110,100,101,102,105,110,101,100]⟩:ByteArray),(⟨#[116,114,117,101]⟩:ByteArray),(⟨#[102,97,108,115,101]⟩:ByteArray),(⟨#[116,121,112,101,111,102]⟩:ByteArray),(⟨#[105,109,112,111,114,116]⟩:ByteArray),(⟨#[101,120,112,111,114,116]⟩:ByteArray),(⟨#[100,101,102,97,117,108,116]⟩:ByteArray)]:List ByteArray)) 0
theorem bF.calls (k:Nat)(a0:ByteArray)(r:Bool)(w:World)(h:bF.f k a0=some r):
  Calls Tryz.prog 26 #[.string a0] w fun e w'=>e= .returned (.bool r)∧Below w.heap.size w w':=by
 refine Zz ?_;intro HB;have H:(bF.l0 k a0 (([(⟨#[108,101,116]⟩:ByteArray),(⟨#[99,111,110,115,116]⟩:ByteArray),(⟨#[102,117,110,99,116,105,111,110]⟩:ByteArray),(⟨#[99,108,97,115,115]⟩:ByteArray),(⟨#[105,102]⟩:ByteArray),(⟨#[101,108,115,101]⟩:ByteArray),(⟨#[119,104,105,108,101]⟩:ByteArray),(⟨#[114,101,116,117,114,110]⟩:ByteArray),(⟨#[116,104,114,111,119]⟩:ByteArray),(⟨#[110,101,119]⟩:ByteArray),(⟨#[116,104,105,115]⟩:ByteArray),(⟨#[110,117,108,108]⟩:ByteArray),(⟨#[117,110,100,101,102,105,110,101,100]⟩:ByteArray),(⟨#[116,114,117,101]⟩:ByteArray),(⟨#[102,97,108,115,101]⟩:ByteArray),(⟨#[116,121,112,101,111,102]⟩:ByteArray),(⟨#[105,109,112,111,114,116]⟩:ByteArray),(⟨#[101,120,112,111,114,116]⟩:ByteArray),(⟨#[100,101,102,97,117,108,116]⟩:ByteArray)]:List ByteArray)) 0)=some r:=h;clear h;obtain⟨Ae,Kz⟩:∃y_:List ByteArray,y_=(([(⟨#[108,101,116]⟩:ByteArray),(⟨#[99,111,110,115,116]⟩:ByteArray),(⟨#[102,117,110,99,116,105,111,110]⟩:ByteArray),(⟨#[99,108,97,115,115]⟩:ByteArray),(⟨#[105,102]⟩:ByteArray),(⟨#[101,108,115,101]⟩:ByteArray),(⟨#[119,104,105,108,101]⟩:ByteArray),(⟨#[114,101,116,117,114,110]⟩:ByteArray),(⟨#[116,104,114,111,119]⟩:ByteArray),(⟨#[110,101,119]⟩:ByteArray),(⟨#[116,104,105,115]⟩:ByteArray),(⟨#[110,117,108,108]⟩:ByteArray),(⟨#[117,110,100,101,102,105,110,101,100]⟩:ByteArray),(⟨#[116,114,117,101]⟩:ByteArray),(⟨#[102,97,108,115,101]⟩:ByteArray),(⟨#[116,121,112,101,111,102]⟩:ByteArray),(⟨#[105,109,112,111,114,116]⟩:ByteArray),(⟨#[101,120,112,111,114,116]⟩:ByteArray),(⟨#[100,101,102,97,117,108,116]⟩:ByteArray)]:List ByteArray)):=⟨_,rfl⟩
 replace H:(bF.l0 k a0 Ae 0)=some r:=by first|(rw[Kz];with_reducible exact H)|(have tV:=(Option.bind_some _ _).symm.trans H;rw[Kz];with_reducible exact tV)|(have tV:=(Option.bind_some _ _).symm.trans H;with_reducible exact tV)|with_reducible exact H|(rw[Kz];exact H)|exact H
 have adB:=Aside0.mk Kz;clear Kz;have H':=Aside0.mk H;clear H;go_enter Tryz.func26,Tryz.ntmps26;go_wp2_with (first|((with_reducible refine iY (N:=5) rfl ?_);refine Kd.zI Kd.string _ 9 ?hg (N:=5) ?hd (xs:=([(⟨#[108,101,116]⟩:ByteArray),(⟨#[99,111,110,115,116]⟩:ByteArray),(⟨#[102,117,110,99,116,105,111,110]⟩:ByteArray),(⟨#[99,108,97,115,115]⟩:ByteArray),(⟨#[105,102]⟩:ByteArray),(⟨#[101,108,115,101]⟩:ByteArray),(⟨#[119,104,105,108,101]⟩:ByteArray),(⟨#[114,101,116,117,114,110]⟩:ByteArray),(⟨#[116,104,114,111,119]⟩:ByteArray),(⟨#[110,101,119]⟩:ByteArray),(⟨#[116,104,105,115]⟩:ByteArray),(⟨#[110,117,108,108]⟩:ByteArray),(⟨#[117,110,100,101,102,105,110,101,100]⟩:ByteArray),(⟨#[116,114,117,101]⟩:ByteArray),(⟨#[102,97,108,115,101]⟩:ByteArray),(⟨#[116,121,112,101,111,102]⟩:ByteArray),(⟨#[105,109,112,111,114,116]⟩:ByteArray),(⟨#[101,120,112,111,114,116]⟩:ByteArray),(⟨#[100,101,102,97,117,108,116]⟩:ByteArray)]:List ByteArray)) (inner:=[.string (⟨#[108,101,116]⟩:ByteArray),.string (⟨#[99,111,110,115,116]⟩:ByteArray),.string (⟨#[102,117,110,99,116,105,111,110]⟩:ByteArray),.string (⟨#[99,108,97,115,115]⟩:ByteArray),.string (⟨#[105,102]⟩:ByteArray),.string (⟨#[101,108,115,101]⟩:ByteArray),.string (⟨#[119,104,105,108,101]⟩:ByteArray),.string (⟨#[114,101,116,117,114,110]⟩:ByteArray),.string (⟨#[116,104,114,111,119]⟩:ByteArray),.string (⟨#[110,101,119]⟩:ByteArray),.string (⟨#[116,104,105,115]⟩:ByteArray),.string (⟨#[110,117,108,108]⟩:ByteArray),.string (⟨#[117,110,100,101,102,105,110,101,100]⟩:ByteArray),.string (⟨#[116,114,117,101]⟩:ByteArray),.string (⟨#[102,97,108,115,101]⟩:ByteArray),.string (⟨#[116,121,112,101,111,102]⟩:ByteArray),.string (⟨#[105,109,112,111,114,116]⟩:ByteArray),.string (⟨#[101,120,112,111,114,116]⟩:ByteArray),.string (⟨#[100,101,102,97,117,108,116]⟩:ByteArray)]) (ok:=fun _=>True) (okp:=fun _=>True) ?hr ?hp (fun _ hk=>hk) trivial (Below.refl _ _) (Nat.le_refl _) qo ?_;(case hd=>rfl);(case hg=>rfl);(case hr=>first|(go_simp;done)|(go_simp;rfl));(case hp=>exact(bH.one (show Kd.M Kd.string _ _ _ (⟨#[108,101,116]⟩:ByteArray) [.string (⟨#[108,101,116]⟩:ByteArray)]from rfl) (bH.one (show Kd.M Kd.string _ _ _ (⟨#[99,111,110,115,116]⟩:ByteArray) [.string (⟨#[99,111,110,115,116]⟩:ByteArray)]from rfl) (bH.one (show Kd.M Kd.string _ _ _ (⟨#[102,117,110,99,116,105,111,110]⟩:ByteArray) [.string (⟨#[102,117,110,99,116,105,111,110]⟩:ByteArray)]from rfl) (bH.one (show Kd.M Kd.string _ _ _ (⟨#[99,108,97,115,115]⟩:ByteArray) [.string (⟨#[99,108,97,115,115]⟩:ByteArray)]from rfl) (bH.one (show Kd.M Kd.string _ _ _ (⟨#[105,102]⟩:ByteArray) [.string (⟨#[105,102]⟩:ByteArray)]from rfl) (bH.one (show Kd.M Kd.string _ _ _ (⟨#[101,108,115,101]⟩:ByteArray) [.string (⟨#[101,108,115,101]⟩:ByteArray)]from rfl) (bH.one (show Kd.M Kd.string _ _ _ (⟨#[119,104,105,108,101]⟩:ByteArray) [.string (⟨#[119,104,105,108,101]⟩:ByteArray)]from rfl) (bH.one (show Kd.M Kd.string _ _ _ (⟨#[114,101,116,117,114,110]⟩:ByteArray) [.string (⟨#[114,101,116,117,114,110]⟩:ByteArray)]from rfl) (bH.one (show Kd.M Kd.string _ _ _ (⟨#[116,104,114,111,119]⟩:ByteArray) [.string (⟨#[116,104,114,111,119]⟩:ByteArray)]from rfl) (bH.one (show Kd.M Kd.string _ _ _ (⟨#[110,101,119]⟩:ByteArray) [.string (⟨#[110,101,119]⟩:ByteArray)]from rfl) (bH.one (show Kd.M Kd.string _ _ _ (⟨#[116,104,105,115]⟩:ByteArray) [.string (⟨#[116,104,105,115]⟩:ByteArray)]from rfl) (bH.one (show Kd.M Kd.string _ _ _ (⟨#[110,117,108,108]⟩:ByteArray) [.string (⟨#[110,117,108,108]⟩:ByteArray)]from rfl) (bH.one (show Kd.M Kd.string _ _ _ (⟨#[117,110,100,101,102,105,110,101,100]⟩:ByteArray) [.string (⟨#[117,110,100,101,102,105,110,101,100]⟩:ByteArray)]from rfl) (bH.one (show Kd.M Kd.string _ _ _ (⟨#[116,114,117,101]⟩:ByteArray) [.string (⟨#[116,114,117,101]⟩:ByteArray)]from rfl) (bH.one (show Kd.M Kd.string _ _ _ (⟨#[102,97,108,115,101]⟩:ByteArray) [.string (⟨#[102,97,108,115,101]⟩:ByteArray)]from rfl) (bH.one (show Kd.M Kd.string _ _ _ (⟨#[116,121,112,101,111,102]⟩:ByteArray) [.string (⟨#[116,121,112,101,111,102]⟩:ByteArray)]from rfl) (bH.one (show Kd.M Kd.string _ _ _ (⟨#[105,109,112,111,114,116]⟩:ByteArray) [.string (⟨#[105,109,112,111,114,116]⟩:ByteArray)]from rfl) (bH.one (show Kd.M Kd.string _ _ _ (⟨#[101,120,112,111,114,116]⟩:ByteArray) [.string (⟨#[101,120,112,111,114,116]⟩:ByteArray)]from rfl) (bH.one (show Kd.M Kd.string _ _ _ (⟨#[100,101,102,97,117,108,116]⟩:ByteArray) [.string (⟨#[100,101,102,97,117,108,116]⟩:ByteArray)]from rfl) (bH.none _ _)))))))))))))))))))));intro aoa w2 ho3 hb Ro qD;clear Ro qD;(first|rw[←adB.out]at ho3|(simp only[Int.reduceToNat]at ho3;rw[←adB.out]at ho3));have kM:=Aside0.mk (Kd.jK ho3 (dF ah));have ny:=Aside0.mk (dK ah hb);clear HB;have ai_:=kM;have HB:=ny;clear kM ny;clear hb ho3));go_loopg [4] k (fun kq v4 w'=>∃(dZ:Int),v4= .int .i64 dZ∧Aside0 (bF.l0 kq a0 Ae dZ=some r)∧Aside0 (kq≤k)∧Aside0 (Kd.R Kd.string 9 w' w.heap.size (fun _=>True) aoa Ae)∧Aside0 (Below w.heap.size w w'))
 case atStart=>exact⟨(0),mU,H',⟨Nat.le_refl _⟩,⟨by(with_reducible repeat (first|apply Kd.iU|apply Kd.jq|apply Kd.kY));exact ai_.out⟩,⟨ah⟩⟩
 case round=>
  clear H'
  try clear c2
  try clear p2
  obtain⟨dZ,rfl,HA,JJ,oQ,HB⟩:=hrel
  cases gk with
  |zero=>exact absurd HA.out (by simp[bF.l0])
  |succ k1=>
   have H:=HA.out;clear HA;simp only[bF.l0]at H;by_cases c4:dZ<(Ae.length:Int)
   ·rw[if_pos c4]at H
    have Fa:decide (dZ<(Ae.length:Int))=true:=decide_eq_true c4;clear c4;by_cases c5:0≤dZ
    ·rw[if_pos c5]at H
     have tT:decide (0≤dZ)=true:=decide_eq_true c5;clear c5;by_cases c6:(iq ByteArray.empty Ae dZ).toList=a0.toList
     ·rw[if_pos c6]at H
      have mQ:((iq ByteArray.empty Ae dZ).toList==a0.toList)=true:=beq_iff_eq.mpr c6;have zZ:((iq ByteArray.empty Ae dZ).toList != a0.toList)=false:=bne_eq_false_iff_eq.mpr c6;clear c6;obtain rfl:=Option.some.inj H;obtain⟨Ao7,co7,eo7⟩:=Kd.iJ oQ.out;subst eo7;refine Yh ?_;intro KA KD Wh Wi Gz
      cases Wi
      replace KA:=eq_true KA
      replace KD:=eq_true KD
      go_wp2;exact adX
     ·rw[if_neg c6]at H
      have mQ:((iq ByteArray.empty Ae dZ).toList==a0.toList)=false:=beq_eq_false_iff_ne.mpr c6;have zZ:((iq ByteArray.empty Ae dZ).toList != a0.toList)=true:=bne_iff_ne.mpr c6;have H':=Aside0.mk H;clear H;obtain⟨Ao8,co8,eo8⟩:=Kd.iJ oQ.out;subst eo8;refine Yh ?_;intro KA KD Wh Wi Gz
      cases Wi
      replace KA:=eq_true KA
      replace KD:=eq_true KD
      exact adC
    ·exact Y2
   ·rw[if_neg c4]at H
    have Fa:decide (dZ<(Ae.length:Int))=false:=decide_eq_false c4;exact Vu
def mF.f (k:Nat)(a0:ByteArray):Option (Bool):=(aD.f k a0).bind fun t175=>(if t175=true then((bF.f k a0).bind fun DK=>(some (!DK)))else(some false))
theorem mF.calls (k:Nat)(a0:ByteArray)(r:Bool)(w:World)(h:mF.f k a0=some r):
  Calls Tryz.prog 13 #[.string a0] w fun e w'=>e= .returned (.bool r)∧Below w.heap.size w w':=by
 refine Zz ?_;intro HB;have H:((aD.f k a0).bind fun t175=>(if t175=true then((bF.f k a0).bind fun DK=>(some (!DK)))else(some false)))=some r:=h;clear h
 replace H:=Option.bind_eq_some_iff.mp H
 obtain⟨t175,V4,H⟩:=H
 replace H:(if t175=true then((bF.f k a0).bind fun DK=>(some (!DK)))else(some false))=some r:=H
 have A2:=Aside0.mk V4;clear V4;by_cases c3:t175=true
 ·subst c3
  have H1:((bF.f k a0).bind fun DK=>(some (!DK)))=some r:=aqR;clear H;have H:=H1;clear H1
  replace H:=Option.bind_eq_some_iff.mp H
  obtain⟨DK,A40,H⟩:=H
  replace H:(some (!DK))=some r:=H
  have A4:=Aside0.mk A40;clear A40;obtain rfl:=Option.some.inj H;go_enter Tryz.func13,Tryz.ntmps13;go_wp2_with (first|((with_reducible refine dM (f:=25) rfl ?_);refine jN (some 4) rfl rfl Tryz.func25 dL rfl #[.string a0] rfl aA ?_;(with_reducible refine(aD.calls k a0 true _ A2.out).mono ?_);rintro e w5 ⟨rfl,hb⟩;refine⟨_,rfl,?_⟩;have kM:=Aside0.mk (dK ah hb);clear HB;have HB:=kM;clear kM;(try clear hb);(try clear hb2);(try clear hk);(try clear hi))|(go_at_call 26;(with_reducible refine(bF.calls k a0 DK _ A4.out).mono ?_);rintro e w6 ⟨rfl,hb⟩;have kM:=Aside0.mk (dK ah hb);clear HB;have HB:=kM;clear kM;(try clear hb);(try clear hb2);(try clear hk);(try clear hi)));exact adX
 ·replace c3:=Bool.eq_false_iff.mpr c3
  subst c3;have H1:(some false)=some r:=Pp;clear H;have H:=H1;clear H1;obtain rfl:=Option.some.inj H;go_enter Tryz.func13,Tryz.ntmps13;go_wp2_with (first|((with_reducible refine dM (f:=25) rfl ?_);refine jN (some 4) rfl rfl Tryz.func25 dL rfl #[.string a0] rfl aA ?_;(with_reducible refine(aD.calls k a0 false _ A2.out).mono ?_);rintro e w7 ⟨rfl,hb⟩;refine⟨_,rfl,?_⟩;have kM:=Aside0.mk (dK ah hb);clear HB;have HB:=kM;clear kM;(try clear hb);(try clear hb2);(try clear hk);(try clear hi)));exact adX
def jM.f (k:Nat)(a0:ByteArray):Option (Bool):=(aU.f k a0).bind fun Wm=>(some Wm.2)
theorem jM.calls (k:Nat)(a0:ByteArray)(r:Bool)(w:World)(h:jM.f k a0=some r):
  Calls Tryz.prog 85 #[.string a0] w fun e w'=>e= .returned (.bool r)∧Below w.heap.size w w':=by
 refine Zz ?_;intro HB;have H:((aU.f k a0).bind fun Wm=>(some Wm.2))=some r:=h;clear h
 replace H:=Option.bind_eq_some_iff.mp H
 obtain⟨⟨aoc,aja⟩,V4,H⟩:=H
 replace H:(some aja)=some r:=H
 have A2:=Aside0.mk V4;clear V4;obtain rfl:=Option.some.inj H;go_enter Tryz.func85,Tryz.ntmps85;go_wp2_with (first|((with_reducible refine dM (f:=51) rfl ?_);refine jN (some 7) rfl rfl Tryz.func51 dL rfl #[.string a0] rfl aA ?_;(with_reducible refine(aU.calls k a0 aoc aja _ A2.out).mono ?_);rintro e w3 ⟨aum,rfl,ho0,hb⟩;refine⟨_,rfl,?_⟩;have kM:=Aside0.mk (Kd.jK ho0 (dF ah));have ny:=Aside0.mk (dK ah hb);clear HB;have arz:=kM;have HB:=ny;clear kM ny;(try clear hb);(try clear hb2);(try clear hk);(try clear hi);(try clear ho0)));exact adX
def j4.f (k:Nat)(a0:ByteArray):Option (Bool):=(aD.f k a0).bind fun Sc=>(some Sc)
theorem j4.calls (k:Nat)(a0:ByteArray)(r:Bool)(w:World)(h:j4.f k a0=some r):
  Calls Tryz.prog 87 #[.string a0] w fun e w'=>e= .returned (.bool r)∧Below w.heap.size w w':=by
 refine Zz ?_;intro HB;have H:((aD.f k a0).bind fun Sc=>(some Sc))=some r:=h;clear h
 replace H:=Option.bind_eq_some_iff.mp H
 obtain⟨Sc,V4,H⟩:=H
 replace H:(some Sc)=some r:=H
 have A2:=Aside0.mk V4;clear V4;obtain rfl:=Option.some.inj H;go_enter Tryz.func87,Tryz.ntmps87;go_wp2_with (first|((with_reducible refine dM (f:=25) rfl ?_);refine jN (some 4) rfl rfl Tryz.func25 dL rfl #[.string a0] rfl aA ?_;(with_reducible refine(aD.calls k a0 Sc _ A2.out).mono ?_);rintro e w3 ⟨rfl,hb⟩;refine⟨_,rfl,?_⟩;have kM:=Aside0.mk (dK ah hb);clear HB;have HB:=kM;clear kM;(try clear hb);(try clear hb2);(try clear hk);(try clear hi)));exact adX
def dx.l0:Nat→ByteArray→List ByteArray→Int→Option (Bool)
 |0,_,_,_=>none
 |k+1,x0,x1,x5=>if x5<(x1.length:Int)then(if 0≤x5 then(if(iq ByteArray.empty x1 x5).toList=x0.toList then(some true)else(dx.l0 k x0 x1 (wrap64 (x5+1))))else(none))else(some false)
def dx.f (k:Nat)(a0:ByteArray)(l1:List ByteArray):Option (Bool):=dx.l0 k a0 l1 0
theorem dx.calls (k:Nat)(a0:ByteArray)(A1:Option Addr)(c1:Nat)(l1:List ByteArray)(r:Bool)(w:World)(hr1:Kd.C Kd.string w A1 l1.length l1)(hc1:l1.length≤c1)(h:dx.f k a0 l1=some r):
  Calls Tryz.prog 89 #[.string a0,.slice A1 l1.length c1] w fun e w'=>e= .returned (.bool r)∧bU w w':=by
 have HR1:=Aside0.mk hr1;have HC1:=Aside0.mk hc1;clear hr1 hc1;have H:(dx.l0 k a0 l1 0)=some r:=h;clear h;have H':=Aside0.mk H;clear H;go_enter Tryz.func89,Tryz.ntmps89;go_wp2;go_loopg [5] k (fun kq v5 w'=>∃(oP:Int),v5= .int .i64 oP∧Aside0 (dx.l0 kq a0 l1 oP=some r)∧Aside0 (kq≤k)∧bU w w')
 case atStart=>exact⟨(0),mU,H',⟨Nat.le_refl _⟩,BA⟩
 case round=>
  clear H'
  try clear c1
  try clear p2
  obtain⟨oP,rfl,HA,JJ,⟨m1,rfl⟩⟩:=hrel
  cases gk with
  |zero=>exact absurd HA.out (by simp[dx.l0])
  |succ k1=>
   have H:=HA.out;clear HA;simp only[dx.l0]at H;by_cases c3:oP<(l1.length:Int)
   ·rw[if_pos c3]at H
    have sS:decide (oP<(l1.length:Int))=true:=decide_eq_true c3;clear c3;by_cases c4:0≤oP
    ·rw[if_pos c4]at H
     have Fa:decide (0≤oP)=true:=decide_eq_true c4;clear c4;by_cases c5:(iq ByteArray.empty l1 oP).toList=a0.toList
     ·rw[if_pos c5]at H
      have tT:((iq ByteArray.empty l1 oP).toList==a0.toList)=true:=beq_iff_eq.mpr c5;have aiQ:((iq ByteArray.empty l1 oP).toList != a0.toList)=false:=bne_eq_false_iff_eq.mpr c5;clear c5;obtain rfl:=Option.some.inj H;refine Uu ?_;intro KE KG Wo e185 GA
      cases e185
      replace KE:=eq_true KE
      replace KG:=eq_true KG
      go_wp2;go_ret;exact sU
     ·rw[if_neg c5]at H
      have tT:((iq ByteArray.empty l1 oP).toList==a0.toList)=false:=beq_eq_false_iff_ne.mpr c5;have aiQ:((iq ByteArray.empty l1 oP).toList != a0.toList)=true:=bne_iff_ne.mpr c5;have H':=Aside0.mk H;clear H;refine Uu ?_;intro KE KG Wo e185 GA
      cases e185
      replace KE:=eq_true KE
      replace KG:=eq_true KG
      go_wp2;go_roundg k1
      case measure=>have:=JJ.out;omega
      case rel=>exact⟨(wrap64 (oP+1)),mU,H',⟨vY⟩,BA⟩
    ·exact Zo
   ·rw[if_neg c3]at H
    have sS:decide (oP<(l1.length:Int))=false:=decide_eq_false c3;clear c3;obtain rfl:=Option.some.inj H;go_wp2;go_ret;exact sU
end Go.Proofs.YtldgmneijipbjaaGreatDoor.PScopeOwn
