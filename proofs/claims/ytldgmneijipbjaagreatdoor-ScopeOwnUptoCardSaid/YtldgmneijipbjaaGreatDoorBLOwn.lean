import Derived.Test.YtldgmneijipbjaaGreatDoorBQ9
import Derived.Test.YtldgmneijipbjaaGreatDoorBF0
import Derived.Test.YtldgmneijipbjaaGreatDoorBMac
set_option linter.unusedVariables false
set_option linter.unusedSimpArgs false
set_option maxRecDepth 100000
set_option maxHeartbeats 16000000
namespace Go.Proofs.YtldgmneijipbjaaGreatDoor.H
open Go.RowKit Go.Shelf Go.Proofs.YtldgmneijipbjaaGreatDoorW.PrintWords Go.Proofs.YtldgmneijipbjaaGreatDoorW.PrintLast Go.Proofs.YtldgmneijipbjaaGreatDoorW.PrintMore
open PScopeOwn
theorem RRV.rows {w w':World}{x:Tr}{tv uv:Value}(h:RRV w x tv uv w'):∃At ct Au cu,tv= .slice At (qp x).length ct∧uv= .slice Au (qw x).length cu∧∀W,Below w'.heap.size w' W→Kd.C K5 W At (qp x).length ((qp x).map dA.cs)∧Kd.C K5 W Au (qw x).length ((qw x).map bV.cs):=by
 exact ad7
structure LB (w:World)(x:Tr)(A:Option Addr)(n c:Nat)(W:World):Prop where
 x0:W.cell? ⟨w.heap.size,0,none⟩=some (.int .i64 x.f0)
 x1:W.cell? ⟨w.heap.size,1,none⟩=some (.string x.f1)
 x2:W.cell? ⟨w.heap.size,2,none⟩=some (.int .i64 x.f2)
 x3:W.cell? ⟨w.heap.size,3,none⟩=some (.slice A n c)
 rd:Rd W x A c
theorem LB.make {w W:World}{x:Tr}{A:Option Addr}{n c:Nat}(hr:Rd w x A c)(h:Below (w.alloc (.cells #[.int .i64 x.f0,.string x.f1,.int .i64 x.f2,.slice A n c] 24)).heap.size (w.alloc (.cells #[.int .i64 x.f0,.string x.f1,.int .i64 x.f2,.slice A n c] 24)) W):LB w x A n c W:=by
 obtain⟨a,b,d,e,f⟩:=ji h;exact⟨a,b,d,e,hr.below f⟩
theorem LB.below {w W W':World}{x:Tr}{A:Option Addr}{n c:Nat}(h:LB w x A n c W)(hb:Below W.heap.size W W'):LB w x A n c W':=
 ⟨ak hb h.x0,ak hb h.x1,ak hb h.x2,ak hb h.x3,h.rd.below hb⟩
theorem LX (x:Tr):(fC x).uses.length≤(flat x).length:=by
 have h:=(iX x.f3 en0 (iE st0 1 0 x.f3) 1).len;have e:(iE st0 1 0 x.f3).uses=[]:=(u7 x.f3 st0 1 0).uses;rw[e]at h;unfold fC;rw[gD];simp only[List.length_nil,List.length_cons]at h⊢;omega
def atL (l:List Tr)(i:Nat):List Int:=(List.range (l.length+1)).map fun j=>if j≤i then 1+zL (l.take j)else 0
theorem ZN {l:List Tr}{i:Nat}(hi:i<l.length):(atL l i).set (i+1) (1+zL (l.take (i+1)))=atL l (i+1):=by
 unfold atL;apply List.ext_getElem?;intro j;rw[List.getElem?_set,List.getElem?_map,List.getElem?_map,List.length_map,List.length_range];by_cases hj:j<l.length+1
 ·rw[List.getElem?_range hj]
  by_cases e:i+1=j
  ·subst e;simp[hj]
  ·rw[if_neg e]
   simp only[Option.map_some];by_cases h:j≤i
   ·rw[if_pos h,if_pos aG]
   ·rw[if_neg h,if_neg aG]
 ·have h1:(List.range (l.length+1))[j]?=none:=by rw[List.getElem?_eq_none_iff];simp;omega
  rw[h1,if_neg aG];rfl
structure AT (w4:World)(gs cs n:Nat)(l:List Tr)(i:Nat)(wr:World):Prop where
 row:(Kd.int .i64).R 3 wr w4.heap.size (fun k=>w4.heap.size≤k) (.slice (some ⟨gs,0,none⟩) (n+1) cs) (atL l i)
 low:Below w4.heap.size w4 wr
 len:l.length=n
section
variable {w4 wr W:World} {gs cs n i j:Nat} {l:List Tr}
theorem AT.any (h:AT w4 gs cs n l i wr)(hj:j≤n):(∃u,wr.cell? ⟨gs,j,none⟩=some u)∧wr.frozen? ⟨gs,j,none⟩=false:=by
 have:=Kd.Ak 0 h.row (j:Int) aG aG;rw[Int.toNat_natCast]at this;exact⟨⟨_,this.1⟩,this.2⟩
theorem AT.below (h:AT w4 gs cs n l i wr)(hb:Below wr.heap.size wr W):AT w4 gs cs n l i W:=⟨Kd.bS h.row hb,h.low.trans (hb.mono h.low.size),h.len⟩
theorem AT.put (h:AT w4 gs cs n l i wr)(hi:i<n):AT w4 gs cs n l (i+1) (wr.setCell ⟨gs,i+1,none⟩ (.int .i64 (1+zL (l.take (i+1))))):=by
 obtain⟨hp,-⟩:=Kd.T_ h.row ((i+1:Nat):Int) (1+zL (l.take (i+1)));rw[Int.toNat_natCast,ZN (by rw[h.len];exact hi)]at hp;exact⟨hp,h.low.setCell (p:=⟨gs,i+1,none⟩) (h.row.1 gs rfl) _,h.len⟩
end
theorem L_ (x:Tr):(fC x).aN.length≤(flat x).length:=by
 have h:=(u7 x.f3 st0 1 0).aN;unfold fC;rw[(iX x.f3 en0 _ 1).aN,gD];have e:st0.aN.length=0:=rfl;simp only[List.length_cons];omega
structure SS (g:Nat)(ts:List dA)(us:List bV)(nt nu:Nat)(At Bt Au Bu:Option Addr)(ct dt cu du:Nat)(W:World):Prop where
 a0:W.cell? ⟨g,0,none⟩=some (.slice At nt ct)
 a1:W.cell? ⟨g,1,none⟩=some (.slice Au nu cu)
 b0:W.cell? ⟨g+1,0,none⟩=some (.slice Bt nt dt)
 b1:W.cell? ⟨g+1,1,none⟩=some (.slice Bu nu du)
 h1:Kd.C K5 W At nt (ts.map dA.cs)
 h2:Kd.C K5 W Bt nt (ts.map dA.cs)
 h3:Kd.C K5 W Au nu (us.map bV.cs)
 h4:Kd.C K5 W Bu nu (us.map bV.cs)
theorem SS.below {g nt nu ct dt cu du:Nat}{ts:List dA}{us:List bV}{At Bt Au Bu:Option Addr}{W W':World}(h:SS g ts us nt nu At Bt Au Bu ct dt cu du W)(hb:Below W.heap.size W W'):SS g ts us nt nu At Bt Au Bu ct dt cu du W':=
 ⟨ak hb h.a0,ak hb h.a1,ak hb h.b0,ak hb h.b1,kL h.h1 hb,kL h.h2 hb,kL h.h3 hb,kL h.h4 hb⟩
theorem ZQ (ts:List dA)(us:List bV)(nt nu:Nat)(ht:ts.length=nt)(hu:us.length=nu)(hnt:nt≤1048576)(hnu:nu≤1048576)(At Bt Au Bu:Option Addr)(ct dt cu du:Nat)(w:World)
  (h1:Kd.C K5 w At nt (ts.map dA.cs))(h2:Kd.C K5 w Bt nt (ts.map dA.cs))(h3:Kd.C K5 w Au nu (us.map bV.cs))(h4:Kd.C K5 w Bu nu (us.map bV.cs)):
  Calls Tryz.prog 17 #[.agg #[.slice At nt ct,.slice Au nu cu],.agg #[.slice Bt nt dt,.slice Bu nu du]] w (aH w true):=by
 have HT:=hide ht;have HU:=hide hu;obtain⟨W2,hW2⟩:∃W,(w.alloc (.cells #[.slice At nt ct,.slice Au nu cu] 28)).alloc (.cells #[.slice Bt nt dt,.slice Bu nu du] 28)=W:=⟨_,rfl⟩;have b2:Below w.heap.size w W2:=by rw[←hW2];exact au (au (Below.refl _ _) _) _
 have n0:W2.heap[w.heap.size]?=some (.cells #[.slice At nt ct,.slice Au nu cu] 28 (0,0)):=by rw[←hW2];exact dh (aR w _) _
 have n1:W2.heap[w.heap.size+1]?=some (.cells #[.slice Bt nt dt,.slice Bu nu du] 28 (0,0)):=by rw[←hW2];have:=aR (w.alloc (.cells #[.slice At nt ct,.slice Au nu cu] 28)) (.cells #[.slice Bt nt dt,.slice Bu nu du] 28);rwa[World.size_alloc]at this
 have H2:=hide (show SS w.heap.size ts us nt nu At Bt Au Bu ct dt cu du W2 from⟨(aj n0 0).trans rfl,(aj n0 1).trans rfl,(aj n1 0).trans rfl,(aj n1 1).trans rfl,kL h1 b2,kL h2 b2,kL h3 b2,kL h4 b2⟩);have B2:=hide b2;have HW2:=hide hW2;clear b2 n0 n1 h1 h2 h3 h4 ht hu hW2;go_enter Tryz.func17,Tryz.ntmps17;go_wp2;rw[HW2.out];have Q0:=hide (Below.refl W2.heap.size W2);go_loopg [5] (nt+1) (fun gk v5 wr=>∃i:Nat,i≤nt∧nt-i<gk∧v5= .int .i64 i∧Aside0 (Below W2.heap.size W2 wr))
 case atStart=>exact⟨0,Nat.zero_le _,aG,rfl,Q0⟩
 case round=>
  obtain⟨i,hi,lS,rfl,J⟩:=hrel;clear Q0;have H:=hide (H2.out.below J.out);have a0:=H.out.a0;by_cases hlt:i<nt
  ·have eY:(i:Int)<(nt:Int):=aG
   refine Zm ?_;intro hi0;obtain⟨t,ht⟩:=eO (l:=ts) (i:=i) (by rw[HT.out];exact hlt);obtain⟨aa,rfl⟩:=kZ H.out.h1 aG;obtain⟨bb,rfl⟩:=kZ H.out.h2 aG;obtain⟨k0,k1,k2,k3,k4⟩:=zh H.out.h1 HT.out ht;obtain⟨l0,l1,l2,l3,l4⟩:=zh H.out.h2 HT.out ht;obtain⟨tn,tk,tp,ti,tc⟩:=t;simp only at k0 k1 k2 k3 k4 l0 l1 l2 l3 l4
   have iQ:=hide (fun(W:World) (hW:Below wr.heap.size wr W)=>show W.cell? ⟨w.heap.size,0,none⟩=some (.slice (some aa) nt ct)∧W.cell? ⟨w.heap.size+1,0,none⟩=some (.slice (some bb) nt dt)∧W.cell? (aa.add (i*5))=some (.string tn)∧W.cell? ⟨(aa.add (i*5)).block,(aa.add (i*5)).off+1,none⟩=some (.int .i64 tk)∧W.cell? ⟨(aa.add (i*5)).block,(aa.add (i*5)).off+2,none⟩=some (.int .i64 tp)∧W.cell? ⟨(aa.add (i*5)).block,(aa.add (i*5)).off+3,none⟩=some (.int .i64 ti)∧W.cell? ⟨(aa.add (i*5)).block,(aa.add (i*5)).off+4,none⟩=some (.bool tc)∧W.cell? (bb.add (i*5))=some (.string tn)∧W.cell? ⟨(bb.add (i*5)).block,(bb.add (i*5)).off+1,none⟩=some (.int .i64 tk)∧W.cell? ⟨(bb.add (i*5)).block,(bb.add (i*5)).off+2,none⟩=some (.int .i64 tp)∧W.cell? ⟨(bb.add (i*5)).block,(bb.add (i*5)).off+3,none⟩=some (.int .i64 ti)∧W.cell? ⟨(bb.add (i*5)).block,(bb.add (i*5)).off+4,none⟩=some (.bool tc)from
    ⟨ak hW H.out.a0,ak hW H.out.b0,ak hW k0,ak hW k1,ak hW k2,ak hW k3,ak hW k4,ak hW l0,ak hW l1,ak hW l2,ak hW l3,ak hW l4⟩)
   clear ht k0 k1 k2 k3 k4 l0 l1 l2 l3 l4;go_wp2;have hb0:Below wr.heap.size wr wr.drew:=bq (Below.refl _ _);refine bX (n:=11) (S:=fun w'=>w'.cell? ⟨w.heap.size,0,none⟩=some (.slice (some aa) nt ct)∧w'.cell? ⟨w.heap.size+1,0,none⟩=some (.slice (some bb) nt dt)∧w'.cell? (aa.add (i*5))=some (.string tn)∧w'.cell? ⟨(aa.add (i*5)).block,(aa.add (i*5)).off+1,none⟩=some (.int .i64 tk)∧w'.cell? ⟨(aa.add (i*5)).block,(aa.add (i*5)).off+2,none⟩=some (.int .i64 tp)∧w'.cell? ⟨(aa.add (i*5)).block,(aa.add (i*5)).off+3,none⟩=some (.int .i64 ti)∧w'.cell? ⟨(aa.add (i*5)).block,(aa.add (i*5)).off+4,none⟩=some (.bool tc)∧w'.cell? (bb.add (i*5))=some (.string tn)∧w'.cell? ⟨(bb.add (i*5)).block,(bb.add (i*5)).off+1,none⟩=some (.int .i64 tk)∧w'.cell? ⟨(bb.add (i*5)).block,(bb.add (i*5)).off+2,none⟩=some (.int .i64 tp)∧w'.cell? ⟨(bb.add (i*5)).block,(bb.add (i*5)).off+3,none⟩=some (.int .i64 ti)∧w'.cell? ⟨(bb.add (i*5)).block,(bb.add (i*5)).off+4,none⟩=some (.bool tc)) (ds:=[]) #[false,false,false,false,false,false,false,false,false,false,false] dL rfl rfl ⟨(iQ.out _ hb0).1,(iQ.out _ hb0).2.1,(iQ.out _ hb0).2.2.1,(iQ.out _ hb0).2.2.2.1,(iQ.out _ hb0).2.2.2.2.1,(iQ.out _ hb0).2.2.2.2.2.1,(iQ.out _ hb0).2.2.2.2.2.2.1,(iQ.out _ hb0).2.2.2.2.2.2.2.1,(iQ.out _ hb0).2.2.2.2.2.2.2.2.1,(iQ.out _ hb0).2.2.2.2.2.2.2.2.2.1,(iQ.out _ hb0).2.2.2.2.2.2.2.2.2.2.1,(iQ.out _ hb0).2.2.2.2.2.2.2.2.2.2.2⟩ (fun hHeld=>?_);obtain⟨wd,hwd⟩:∃wd,wd=wr.drew:=⟨_,rfl⟩;rw[←hwd]at hHeld⊢;have B6:=hide (show Below wr.heap.size wr wd from gX);clear hwd hb0;refine pv 0 30 ?_;refine pv 2 32 ?_;refine pv 5 35 ?_;refine pv 7 37 ?_;refine tJ (i:=1) (N:=some 31) (v:=?_) (a':=?_) #[true,true,true,false,false,true,false,true,false,false,false] rfl rfl dL (fun _ _ _ h=>h) (Or.inl ⟨Nr,?_⟩) hHeld ?_ ?_;rotate_left
   ·exact zW
   rotate_left
   ·exact aad
   refine pv 3 33 ?_;refine tJ (i:=4) (N:=some 34) (v:=?_) (a':=?_) #[true,true,true,true,true,true,false,true,false,false,false] rfl rfl dL (fun _ _ _ h=>h) (Or.inl ⟨Nr,?_⟩) hHeld ?_ ?_;rotate_left
   ·exact zW
   rotate_left
   ·exact aad
   refine tJ (i:=6) (N:=some 36) (v:=?_) (a':=?_) #[true,true,true,true,true,true,true,true,false,false,false] rfl rfl dL (fun _ _ _ h=>h) (Or.inl ⟨Nr,?_⟩) hHeld ?_ ?_;rotate_left
   ·exact zW
   rotate_left
   ·exact aad
   refine pv 8 38 ?_;refine tJ (i:=9) (N:=some 39) (v:=?_) (a':=?_) #[true,true,true,true,true,true,true,true,true,true,false] rfl rfl dL (fun _ _ _ h=>h) (Or.inl ⟨Nr,?_⟩) hHeld ?_ ?_;rotate_left
   ·exact zW
   rotate_left
   ·exact aad
   refine pv 10 40 ?_;refine dP dL ?_;have Q2:=hide (J.out.trans (B6.out.mono J.out.size));clear iQ hHeld;exact Ga
  ·obtain rfl:nt=i:=aG
   obtain⟨w6,rfl⟩:∃q,q=wr:=⟨_,rfl⟩;have Q1:=hide (Below.refl w6.heap.size w6);go_wp2;clear a0;go_loopg [6] (nu+1) (fun gk v6 wr=>∃i:Nat,i≤nu∧nu-i<gk∧v6= .int .i64 i∧Aside0 (Below w6.heap.size w6 wr))
   case atStart=>exact⟨0,Nat.zero_le _,aG,rfl,Q1⟩
   case round=>
    obtain⟨i,hi,lS,rfl,JU⟩:=hrel;clear Q1;have H6:=hide (H.out.below JU.out);have a1:=H6.out.a1;by_cases hlt:i<nu
    ·have eY:(i:Int)<(nu:Int):=aG
     refine Zm ?_;intro hi0;obtain⟨t,ht⟩:=eO (l:=us) (i:=i) (by rw[HU.out];exact hlt);obtain⟨aa,rfl⟩:=kZ H6.out.h3 aG;obtain⟨bb,rfl⟩:=kZ H6.out.h4 aG;obtain⟨k0,k1,k2,k3,k4⟩:=zl H6.out.h3 HU.out ht;obtain⟨l0,l1,l2,l3,l4⟩:=zl H6.out.h4 HU.out ht;obtain⟨tp,tk,td,tn,tc⟩:=t;simp only at k0 k1 k2 k3 k4 l0 l1 l2 l3 l4
     have iQ:=hide (fun(W:World) (hW:Below wr.heap.size wr W)=>show W.cell? ⟨w.heap.size,1,none⟩=some (.slice (some aa) nu cu)∧W.cell? ⟨w.heap.size+1,1,none⟩=some (.slice (some bb) nu du)∧W.cell? (aa.add (i*5))=some (.int .i64 tp)∧W.cell? ⟨(aa.add (i*5)).block,(aa.add (i*5)).off+1,none⟩=some (.int .i64 tk)∧W.cell? ⟨(aa.add (i*5)).block,(aa.add (i*5)).off+2,none⟩=some (.int .i64 td)∧W.cell? ⟨(aa.add (i*5)).block,(aa.add (i*5)).off+3,none⟩=some (.string tn)∧W.cell? ⟨(aa.add (i*5)).block,(aa.add (i*5)).off+4,none⟩=some (.bool tc)∧W.cell? (bb.add (i*5))=some (.int .i64 tp)∧W.cell? ⟨(bb.add (i*5)).block,(bb.add (i*5)).off+1,none⟩=some (.int .i64 tk)∧W.cell? ⟨(bb.add (i*5)).block,(bb.add (i*5)).off+2,none⟩=some (.int .i64 td)∧W.cell? ⟨(bb.add (i*5)).block,(bb.add (i*5)).off+3,none⟩=some (.string tn)∧W.cell? ⟨(bb.add (i*5)).block,(bb.add (i*5)).off+4,none⟩=some (.bool tc)from
      ⟨ak hW H6.out.a1,ak hW H6.out.b1,ak hW k0,ak hW k1,ak hW k2,ak hW k3,ak hW k4,ak hW l0,ak hW l1,ak hW l2,ak hW l3,ak hW l4⟩)
     clear ht k0 k1 k2 k3 k4 l0 l1 l2 l3 l4;go_wp2;have hb0:Below wr.heap.size wr wr.drew:=bq (Below.refl _ _);refine bX (n:=11) (S:=fun w'=>w'.cell? ⟨w.heap.size,1,none⟩=some (.slice (some aa) nu cu)∧w'.cell? ⟨w.heap.size+1,1,none⟩=some (.slice (some bb) nu du)∧w'.cell? (aa.add (i*5))=some (.int .i64 tp)∧w'.cell? ⟨(aa.add (i*5)).block,(aa.add (i*5)).off+1,none⟩=some (.int .i64 tk)∧w'.cell? ⟨(aa.add (i*5)).block,(aa.add (i*5)).off+2,none⟩=some (.int .i64 td)∧w'.cell? ⟨(aa.add (i*5)).block,(aa.add (i*5)).off+3,none⟩=some (.string tn)∧w'.cell? ⟨(aa.add (i*5)).block,(aa.add (i*5)).off+4,none⟩=some (.bool tc)∧w'.cell? (bb.add (i*5))=some (.int .i64 tp)∧w'.cell? ⟨(bb.add (i*5)).block,(bb.add (i*5)).off+1,none⟩=some (.int .i64 tk)∧w'.cell? ⟨(bb.add (i*5)).block,(bb.add (i*5)).off+2,none⟩=some (.int .i64 td)∧w'.cell? ⟨(bb.add (i*5)).block,(bb.add (i*5)).off+3,none⟩=some (.string tn)∧w'.cell? ⟨(bb.add (i*5)).block,(bb.add (i*5)).off+4,none⟩=some (.bool tc)) (ds:=[]) #[false,false,false,false,false,false,false,false,false,false,false] dL rfl rfl ⟨(iQ.out _ hb0).1,(iQ.out _ hb0).2.1,(iQ.out _ hb0).2.2.1,(iQ.out _ hb0).2.2.2.1,(iQ.out _ hb0).2.2.2.2.1,(iQ.out _ hb0).2.2.2.2.2.1,(iQ.out _ hb0).2.2.2.2.2.2.1,(iQ.out _ hb0).2.2.2.2.2.2.2.1,(iQ.out _ hb0).2.2.2.2.2.2.2.2.1,(iQ.out _ hb0).2.2.2.2.2.2.2.2.2.1,(iQ.out _ hb0).2.2.2.2.2.2.2.2.2.2.1,(iQ.out _ hb0).2.2.2.2.2.2.2.2.2.2.2⟩ (fun hHeld=>?_);obtain⟨wd,hwd⟩:∃wd,wd=wr.drew:=⟨_,rfl⟩;rw[←hwd]at hHeld⊢;have B6:=hide (show Below wr.heap.size wr wd from gX);clear hwd hb0;refine pv 0 48 ?_;refine pv 2 50 ?_;refine pv 5 53 ?_;refine pv 7 55 ?_;refine tJ (i:=1) (N:=some 49) (v:=?_) (a':=?_) #[true,true,true,false,false,true,false,true,false,false,false] rfl rfl dL (fun _ _ _ h=>h) (Or.inl ⟨Nr,?_⟩) hHeld ?_ ?_;rotate_left
     ·exact zW
     rotate_left
     ·exact aad
     refine pv 3 51 ?_;refine tJ (i:=4) (N:=some 52) (v:=?_) (a':=?_) #[true,true,true,true,true,true,false,true,false,false,false] rfl rfl dL (fun _ _ _ h=>h) (Or.inl ⟨Nr,?_⟩) hHeld ?_ ?_;rotate_left
     ·exact zW
     rotate_left
     ·exact aad
     refine tJ (i:=6) (N:=some 54) (v:=?_) (a':=?_) #[true,true,true,true,true,true,true,true,false,false,false] rfl rfl dL (fun _ _ _ h=>h) (Or.inl ⟨Nr,?_⟩) hHeld ?_ ?_;rotate_left
     ·exact zW
     rotate_left
     ·exact aad
     refine pv 8 56 ?_;refine tJ (i:=9) (N:=some 57) (v:=?_) (a':=?_) #[true,true,true,true,true,true,true,true,true,true,false] rfl rfl dL (fun _ _ _ h=>h) (Or.inl ⟨Nr,?_⟩) hHeld ?_ ?_;rotate_left
     ·exact zW
     rotate_left
     ·exact aad
     refine pv 10 58 ?_;refine dP dL ?_;have Q2:=hide (JU.out.trans (B6.out.mono JU.out.size));clear iQ hHeld;exact O6
    ·obtain rfl:nu=i:=aG
     have HE:=hide (B2.out.trans ((J.out.trans (JU.out.mono J.out.size)).mono B2.out.size));go_wp2;go_ret;exact⟨rfl,HE.out⟩
theorem ahh {W:World}{ty:TypeId}{base g n cap i:Nat}{ok:Nat→Prop}{xs:List (List Value)}(h:K5.R ty W base ok (.slice (some ⟨g,0,none⟩) n cap) xs)(hi:i<n)(v0 v1 v2 v3 v4:Value)(h1:∀u,u∈[v0,v1,v2,v3,v4]→u.oneCell'=true):
  ((∃u,W.cell? ⟨g,i*5,none⟩=some u)∧(∃u,W.cell? ⟨g,i*5+1,none⟩=some u)∧(∃u,W.cell? ⟨g,i*5+2,none⟩=some u)∧(∃u,W.cell? ⟨g,i*5+3,none⟩=some u)∧(∃u,W.cell? ⟨g,i*5+4,none⟩=some u))∧
   (W.frozen? ⟨g,i*5,none⟩=false∧W.frozen? ⟨g,i*5+1,none⟩=false∧W.frozen? ⟨g,i*5+2,none⟩=false∧W.frozen? ⟨g,i*5+3,none⟩=false∧W.frozen? ⟨g,i*5+4,none⟩=false)∧
   K5.R ty (((((W.setCell ⟨g,i*5,none⟩ v0).setCell ⟨g,i*5+1,none⟩ v1).setCell ⟨g,i*5+2,none⟩ v2).setCell ⟨g,i*5+3,none⟩ v3).setCell ⟨g,i*5+4,none⟩ v4) base ok (.slice (some ⟨g,0,none⟩) n cap) (xs.set i [v0,v1,v2,v3,v4]):=by
 obtain⟨c,hcl,hM0,hcc,hff⟩:=Kd.aeO h [] (i:Int) aG aG;have hs:K5.sz=5:=rfl;rw[hs]at hcl hcc hff;rw[Int.toNat_natCast]at hcc hff
 match c,hcl with
 |[c0,c1,c2,c3,c4],_=>
  have hp:=(Kd.ah2 h (i:Int) aG aG (j:=0) (seg:=[v0,v1,v2,v3,v4]) (x':=[v0,v1,v2,v3,v4]) (okp:=fun _=>False) (c:=[c0,c1,c2,c3,c4]) rfl (by rw[Int.toNat_natCast,hs];exact hcc) (by rw[hs];simp) (show _∧_∧_ from⟨rfl,rfl,Zu⟩) (fun _ h=>h.elim)).1;rw[Int.toNat_natCast,hs]at hp;exact⟨⟨⟨_,hcc 0 _ rfl⟩,⟨_,hcc 1 _ rfl⟩,⟨_,hcc 2 _ rfl⟩,⟨_,hcc 3 _ rfl⟩,⟨_,hcc 4 _ rfl⟩⟩,⟨hff 0,hff 1,hff 2,hff 3,hff 4⟩,hp⟩
structure SP (ty:TypeId)(D:Nat)(w0:World)(v:Value)(z:List Value)(xs:List (List Value))(i:Nat)(wr:World):Prop where
 row:K5.R ty wr D (fun k=>D≤k) v (List.replicate i z++xs.drop i)
 fr:Fr (bQ v) w0 wr
theorem SP.len {ty:TypeId}{D n c i:Nat}{A:Option Addr}{w0 wr:World}{z:List Value}{xs:List (List Value)}(h:SP ty D w0 (.slice A n c) z xs i wr)(hi:i≤xs.length):xs.length=n:=by
 obtain⟨h1,-⟩:=Kd.gQ h.row;rw[List.length_append,List.length_replicate,List.length_drop]at h1;omega
theorem SP.step {ty:TypeId}{D g n c i:Nat}{w0 wr:World}{v0 v1 v2 v3 v4:Value}{xs:List (List Value)}(h:SP ty D w0 (.slice (some ⟨g,0,none⟩) n c) [v0,v1,v2,v3,v4] xs i wr)(hi:i<xs.length)(h1:∀u,u∈[v0,v1,v2,v3,v4]→u.oneCell'=true):
  ((∃u,wr.cell? ⟨g,i*5,none⟩=some u)∧(∃u,wr.cell? ⟨g,i*5+1,none⟩=some u)∧(∃u,wr.cell? ⟨g,i*5+2,none⟩=some u)∧(∃u,wr.cell? ⟨g,i*5+3,none⟩=some u)∧(∃u,wr.cell? ⟨g,i*5+4,none⟩=some u))∧
   (wr.frozen? ⟨g,i*5,none⟩=false∧wr.frozen? ⟨g,i*5+1,none⟩=false∧wr.frozen? ⟨g,i*5+2,none⟩=false∧wr.frozen? ⟨g,i*5+3,none⟩=false∧wr.frozen? ⟨g,i*5+4,none⟩=false)∧
   SP ty D w0 (.slice (some ⟨g,0,none⟩) n c) [v0,v1,v2,v3,v4] xs (i+1) (((((wr.setCell ⟨g,i*5,none⟩ v0).setCell ⟨g,i*5+1,none⟩ v1).setCell ⟨g,i*5+2,none⟩ v2).setCell ⟨g,i*5+3,none⟩ v3).setCell ⟨g,i*5+4,none⟩ v4):=by
 have hn:=h.len aG;obtain⟨q1,q2,q3⟩:=ahh h.row (i:=i) aG v0 v1 v2 v3 v4 h1;obtain⟨y,hy⟩:=eO hi
 have e:(List.replicate i [v0,v1,v2,v3,v4]++xs.drop i).set i [v0,v1,v2,v3,v4]=List.replicate (i+1) [v0,v1,v2,v3,v4]++xs.drop (i+1):=by
  rw[drop_at hy,List.set_append_right _ _ qo,List.length_replicate,Nat.sub_self,List.set_cons_zero,List.replicate_succ',List.append_assoc];rfl
 rw[e]at q3;have hg:bQ (.slice (some ⟨g,0,none⟩) n c) g:=rfl;exact⟨q1,q2,q3,((((h.fr.setCell (.inl hg) _).setCell (.inl hg) _).setCell (.inl hg) _).setCell (.inl hg) _).setCell (.inl hg) _⟩
theorem vC (x:Tr):qp x=ig x∧qw x=fZ x:=by
 unfold qp qw ig fZ;by_cases h:jw x=true
 ·have h2:=P7 (show eT x=5∨eT x=6 from by unfold jw at h;simpa using h)
  by_cases h0:(fC x).err=0
  ·have hr:=h2.1.1 h0
   simp[h,h0,hr,h2.2.1,h2.2.2 h0]
  ·have hr:¬(mK x).err=0:=fun q=>h0 (h2.1.2 q)
   simp[h,h0,hr]
 ·simp[h]
theorem Db (x:Tr):(ig x).length≤(flat x).length∧(fZ x).length≤(flat x).length:=by
 unfold ig fZ
 split
 ·exact⟨L_ x,LX x⟩
 ·simp
structure OX (D g3 g6 g9 nt nu:Nat)(ts:List dA)(us:List bV)(tv uv:Value)(Bt Bu Ct Cu:Option Addr)(bt bu ct cu:Nat)(W:World):Prop where
 b3:W.heap[g3]?=some (.cells #[tv,uv] 28 (0,0))
 b6:W.heap[g6]?=some (.cells #[.slice Bt nt bt,.slice Bu nu bu] 28 (0,0))
 b9:W.heap[g9]?=some (.cells #[.slice Ct nt ct,.slice Cu nu cu] 28 (0,0))
 r1:K5.R 43 W g3 (fun k=>g3≤k) (.slice Bt nt bt) (ts.map dA.cs)
 r2:K5.R 37 W g3 (fun k=>g3≤k) (.slice Bu nu bu) (us.map bV.cs)
 r3:K5.R 43 W g3 (fun k=>g3≤k) (.slice Ct nt ct) (ts.map dA.cs)
 r4:K5.R 37 W g3 (fun k=>g3≤k) (.slice Cu nu cu) (us.map bV.cs)
 low:g3≤g6∧g3≤g9∧D≤g3
section
variable {D g3 g6 g9 nt nu:Nat} {ts:List dA} {us:List bV} {tv uv:Value} {Bt Bu Ct Cu:Option Addr} {bt bu ct cu:Nat} {W W':World}
theorem OX.keep {S:Nat→Prop}(h:OX D g3 g6 g9 nt nu ts us tv uv Bt Bu Ct Cu bt bu ct cu W)(hf:Fr S W W')(hS:∀k,S k→D≤k∧k<g3):OX D g3 g6 g9 nt nu ts us tv uv Bt Bu Ct Cu bt bu ct cu W':=by
 obtain⟨l1,l2,l3⟩:=h.low;refine⟨hf.blk h.b3 (fun q=>by have:=hS _ q;omega),hf.blk h.b6 (fun q=>by have:=hS _ q;omega),hf.blk h.b9 (fun q=>by have:=hS _ q;omega),Ug h.r1 hf (fun k a b=>by have:=hS k b;omega),Ug h.r2 hf (fun k a b=>by have:=hS k b;omega),Ug h.r3 hf (fun k a b=>by have:=hS k b;omega),Ug h.r4 hf (fun k a b=>by have:=hS k b;omega),h.low⟩
theorem OX.below (h:OX D g3 g6 g9 nt nu ts us tv uv Bt Bu Ct Cu bt bu ct cu W)(hb:Below W.heap.size W W'):OX D g3 g6 g9 nt nu ts us tv uv Bt Bu Ct Cu bt bu ct cu W':=
 h.keep (S:=fun _=>False) (Fr.of_below hb) (fun _ q=>q.elim)
end
def Df:List Value:=[.string ⟨#[]⟩,.int .i64 0,.int .i64 0,.int .i64 0,.bool false]
def EN:List Value:=[.int .i64 0,.int .i64 0,.int .i64 0,.string ⟨#[]⟩,.bool false]
abbrev ZU (x:List Value)(cs:List Value):Prop:=cs=x∧cs.length=5∧∀u∈cs,u.oneCell'=true
theorem vD {W:World}{b:Nat}{ty:TypeId}{z:List Value}(hz:z.length=5)(h1:∀u∈z,u.oneCell'=true)(h:W.heap[b]?=some (.cells (z++z).toArray ty (0,0))):fT ZU 5 W (some ⟨b,0,none⟩) 2 [z,z]:=by
 refine⟨rfl,aG,fun _=>⟨_,rfl,fun j p hp=>?_⟩⟩;have hz2:j<2:=by have:=(List.getElem?_eq_some_iff.1 hp).1;simpa using this
 have e:p=z:=by
  match j,hz2 with
  |0,_=>simpa using hp.symm
  |1,_=>simpa using hp.symm
 subst e;refine⟨p,hz,⟨rfl,hz,h1⟩,fun i u hu=>?_⟩;have hi:i<5:=by rw[←hz];exact(List.getElem?_eq_some_iff.1 hu).1
 rw[add_plain,aj h]
 match j,hz2 with
 |0,_=>simp;rw[List.getElem?_append_left aG];exact hu
 |1,_=>simp;rw[List.getElem?_append_right aG,hz,show 5+i-5=i from aG];exact hu
structure FK (D:Nat)(w0:World)(tv:Value)(LT:List (List Value))(nt:Nat)(b4 b10:Option Nat)(v5:Option Value)(X:World):Prop where
 fr:Fr (bQ tv) w0 X
 n4:∀b,b4=some b→w0.heap.size≤b∧X.heap[b]?=some (.cells (Df++Df).toArray 43 (0,0))
 n10:∀b,b10=some b→w0.heap.size≤b∧X.heap[b]?=some (.cells (EN++EN).toArray 37 (0,0))
 rt:v5=none→K5.R 43 X D (fun k=>D≤k) tv LT
 v5:∀v,v5=some v→∃A c,v= .slice A (nt+2) c
section
variable {D:Nat} {w0 X X':World} {tv v1:Value} {LT:List (List Value)} {nt b:Nat} {b4 b10:Option Nat} {v5:Option Value}
theorem FK.below (h:FK D w0 tv LT nt b4 b10 v5 X)(hb:Below X.heap.size X X'):FK D w0 tv LT nt b4 b10 v5 X':=
 ⟨h.fr.more hb,fun b e=>⟨(h.n4 b e).1,(hb.block _ (ay (h.n4 b e).2)).trans (h.n4 b e).2⟩,fun b e=>⟨(h.n10 b e).1,(hb.block _ (ay (h.n10 b e).2)).trans (h.n10 b e).2⟩,fun e=>Kd.bS (h.rt e) hb,h.v5⟩
theorem FK.four (h:FK D w0 tv LT nt none b10 v5 X):FK D w0 tv LT nt (some X.heap.size) b10 v5 (X.alloc (.cells (Df++Df).toArray 43)):=by
 have q:=h.below (au (Below.refl X.heap.size X) (.cells (Df++Df).toArray 43));exact⟨q.fr,fun b e=>by cases e;exact⟨h.fr.size,aR X _⟩,q.n10,q.rt,q.v5⟩
theorem FK.ten (h:FK D w0 tv LT nt b4 none v5 X):FK D w0 tv LT nt b4 (some X.heap.size) v5 (X.alloc (.cells (EN++EN).toArray 37)):=by
 have q:=h.below (au (Below.refl X.heap.size X) (.cells (EN++EN).toArray 37));exact⟨q.fr,q.n4,fun b e=>by cases e;exact⟨h.fr.size,aR X _⟩,q.rt,q.v5⟩
theorem FK.five (h:FK D w0 tv LT nt b4 b10 none X)(hl:LT.length=nt)(htl:∀k,bQ tv k→k<w0.heap.size)(h1:K5.R 43 X' D (fun k=>D≤k) v1 (LT++[Df,Df]))(hg:X.grownBy X' tv.ownBlock):FK D w0 tv LT nt b4 b10 (some v1) X':=by
 have hf:Fr (bQ tv) X X':=Fr.grown (Fr.refl _ X) hg (fun k e=> .inl e);have ne:∀b,w0.heap.size≤b→¬bQ tv b:=fun b hb q=>by have:=htl b q;omega
 refine⟨h.fr.trans hf (fun k q=> .inl q),fun b e=>⟨(h.n4 b e).1,hf.blk (h.n4 b e).2 (ne b (h.n4 b e).1)⟩,fun b e=>⟨(h.n10 b e).1,hf.blk (h.n10 b e).2 (ne b (h.n10 b e).1)⟩,(fun e=>by cases e),fun v e=>?_⟩
 cases e
 obtain⟨A,c,rfl,-,-⟩:=Kd.bL h1;exact⟨A,c,by rw[List.length_append,hl];rfl⟩
theorem FK.start {Xd:World}(h:K5.R 43 w0 D (fun k=>D≤k) tv LT)(hb:Below w0.heap.size w0 Xd):FK D w0 tv LT nt none none none Xd:=
 FK.below (X:=w0) ⟨Fr.refl _ _,(fun b e=>by cases e),(fun b e=>by cases e),fun _=>h,(fun v e=>by cases e)⟩ hb
end
theorem ZV (x:Tr)(hf:Fit x)(hb:(flat x).length≤1048576)(A:Option Addr)(c:Nat)(w:World)(hr:Rd w x A c):Calls Tryz.prog 6 #[nd x A c] w (aH w true):=by
 refine VI ?_;intro n hn fH zB;refine YD ?_;intro rA;have hlen:=Db x;obtain⟨nt,hnt⟩:∃q,(ig x).length=q:=⟨_,rfl⟩;obtain⟨nu,hnu⟩:∃q,(fZ x).length=q:=⟨_,rfl⟩;have akK:nt≤1048576:=aG;have akI:nu≤1048576:=aG;have Pk:=hide hnt;have TD:=hide hnu;clear hr hn hf hb hlen hnt hnu;go_enter Tryz.func6,Tryz.ntmps6;go_wp2_with (go_at_call 7;refine Aside0.out ?_);refine⟨?_⟩;refine VJ ?_;intro W1 hW1 B1;rw[hW1]at rA⊢;clear hW1;refine(fH.out W1 (rA.out W1 (Below.refl _ _)).rd).mono ?_;rintro e w2 ⟨tv,uv,rfl,hv⟩;have L2:=hide hv.low;have RT:=hide hv.tv;have RU:=hide hv.uv;obtain⟨At,Ma,Au,TG,rfl,rfl,-⟩:=hv.rows;obtain⟨p1,hp1⟩:∃q,posR x=q:=⟨_,rfl⟩;obtain⟨e1,he1⟩:∃q,oV x=q:=⟨_,rfl⟩;rw[Pk.out]at RT⊢;rw[TD.out]at RU⊢;rw[hp1,he1];clear hv;obtain⟨q0,q1,q2,q3,-⟩:=rA.out w2 L2.out;refine FH ?_;intro x0 x1 x2 x3;clear q0 q1 q2 q3;go_wp2_with (go_at_call 7;refine Aside0.out ?_);refine⟨?_⟩;obtain⟨W3,hW3⟩:∃W,w2.alloc (.cells #[.slice At nt Ma,.slice Au nu TG] 28)=W:=⟨_,rfl⟩;have N3:=hide (show W3.heap[w2.heap.size]?=some (.cells #[.slice At nt Ma,.slice Au nu TG] 28 (0,0))from by rw[←hW3];exact aR w2 _);have b3:Below w2.heap.size w2 W3:=Pq;have B3:=hide b3;have L3:=hide (L2.out.trans (b3.mono L2.out.size));have hs3:w2.heap.size<W3.heap.size:=ay N3.out;rw[hW3];clear hW3 b3 x0 x1 x2 x3;refine(fH.out W3 (rA.out W3 L3.out).rd).mono ?_;rintro e w4 ⟨tv,uv,rfl,hv⟩;have L4:=hide (L3.out.trans (hv.low.mono L3.out.size));have M4:=hide hv.low;have RT4:=hide hv.tv;have RU4:=hide hv.uv;obtain⟨Bt,bt,Bu,bu,rfl,rfl,-⟩:=hv.rows;rw[Pk.out]at RT4⊢;rw[TD.out]at RU4⊢;rw[hp1,he1];clear hv;obtain⟨q0,q1,q2,q3,-⟩:=rA.out w4 L4.out;refine FH ?_;intro x0 x1 x2 x3;clear q0 q1 q2 q3;go_wp2_with (go_at_call 8;refine Aside0.out ?_);refine⟨?_⟩;obtain⟨W5,KJ⟩:∃W,w4.alloc (.cells #[.slice Bt nt bt,.slice Bu nu bu] 28)=W:=⟨_,rfl⟩;have N5:=hide (show W5.heap[w4.heap.size]?=some (.cells #[.slice Bt nt bt,.slice Bu nu bu] 28 (0,0))from by rw[←KJ];exact aR w4 _);have b5:Below w4.heap.size w4 W5:=by rw[←KJ];exact au (Below.refl _ _) _
 have B5:=hide b5;have L5:=hide (L4.out.trans (b5.mono L4.out.size));have hs5:w4.heap.size<W5.heap.size:=ay N5.out;rw[KJ];clear KJ b5 x0 x1 x2 x3;refine(zB.out W5 (rA.out W5 L5.out).rd).mono ?_;rintro e w6 ⟨tv,uv,rfl,hv⟩;have L6:=hide (L5.out.trans (hv.low.mono L5.out.size));have M6:=hide hv.low;have RT6:=hide hv.tv;have RU6:=hide hv.uv;obtain⟨Ct,ct,Cu,cu,rfl,rfl,-⟩:=hv.rows;rw[(vC x).1,Pk.out];rw[(vC x).2,TD.out];rw[(vC x).1,Pk.out]at RT6;rw[(vC x).2,TD.out]at RU6;obtain⟨p2,hp2⟩:∃q,vV x=q:=⟨_,rfl⟩;obtain⟨e2,he2⟩:∃q,rz x=q:=⟨_,rfl⟩;rw[hp2,he2];clear hv hp1 he1 hp2 he2 fH zB;obtain⟨W7,wP⟩:∃W,w6.alloc (.cells #[.slice Ct nt ct,.slice Cu nu cu] 28)=W:=⟨_,rfl⟩;have n7:W7.heap[w6.heap.size]?=some (.cells #[.slice Ct nt ct,.slice Cu nu cu] 28 (0,0)):=by rw[←wP];exact aR w6 _
 have b7:Below w6.heap.size w6 W7:=by rw[←wP];exact au (Below.refl _ _) _
 have L7:=hide (L6.out.trans (b7.mono L6.out.size));have hz2:W1.heap.size≤w2.heap.size:=L2.out.size;have hz4:W3.heap.size≤w4.heap.size:=M4.out.size;have hz6:W5.heap.size≤w6.heap.size:=M6.out.size;have hz7:=b7.size;have b67:=M6.out.trans (b7.mono M6.out.size);have b57:=B5.out.trans (b67.mono B5.out.size);have b37:=M4.out.trans (b57.mono M4.out.size);have b27:=B3.out.trans (b37.mono B3.out.size)
 have HOX:=hide (show OX W1.heap.size w2.heap.size w4.heap.size w6.heap.size nt nu (ig x) (fZ x) (.slice At nt Ma) (.slice Au nu TG) Bt Bu Ct Cu bt bu ct cu W7 from
  ⟨(b37.block _ (ay N3.out)).trans N3.out,(b67.block _ (ay N5.out)).trans N5.out,n7,
   Kd.mM (Kd.jK (Kd.bS RT4.out b57) aG) (fun k h=>aG),Kd.mM (Kd.jK (Kd.bS RU4.out b57) aG) (fun k h=>aG),
   Kd.mM (Kd.jK (Kd.bS RT6.out b7) aG) (fun k h=>aG),Kd.mM (Kd.jK (Kd.bS RU6.out b7) aG) (fun k h=>aG),⟨aG,aG,aG⟩⟩)
 have ZW:=hide (fun k (hk:bQ (.slice At nt Ma) k)=>show W1.heap.size≤k∧k<w2.heap.size from⟨Kd.pW RT.out k hk,Kd.vF RT.out k hk⟩);have Oc:=hide (fun k (hk:bQ (.slice Au nu TG) k)=>show W1.heap.size≤k∧k<w2.heap.size from⟨Kd.pW RU.out k hk,Kd.vF RU.out k hk⟩)
 have HNE:=hide (fun k (h1:bQ (.slice At nt Ma) k) (h2:bQ (.slice Au nu TG) k)=>show False from by
  obtain⟨c1,q1⟩:=Kd.dO RT.out k h1;obtain⟨c2,q2⟩:=Kd.dO RU.out k h2;rw[q1]at q2
  cases q2)
 have RT7:=hide (Kd.bS RT.out b27);have RU7:=hide (Kd.bS RU.out b27);have hs7:W1.heap.size≤W7.heap.size:=L7.out.size;have akL:w2.heap.size≤W7.heap.size:=aG;clear N3 N5 n7 b7 hz4 hz6 hz7 b67 b57 b37 b27 RT RU RT4 RU4 RT6 RU6 L2 L3 L4 L5 L6 M4 M6 B3 B5 hs3 hs5;have HW7:=hide wP;clear wP;go_wp2;rw[HW7.out];have Q0:=hide (show SP 43 W1.heap.size W7 (.slice At nt Ma) [.string ⟨#[115,112,111,105,108,116]⟩,.int .i64 0,.int .i64 0,.int .i64 0,.bool false] ((ig x).map dA.cs) 0 W7 from⟨by simpa using RT7.out,Fr.refl _ _⟩);go_loopg [12] (nt+1) (fun gk v12 wr=>∃i:Nat,i≤nt∧nt-i<gk∧v12= .int .i64 i∧Aside0 (SP 43 W1.heap.size W7 (.slice At nt Ma) [.string ⟨#[115,112,111,105,108,116]⟩,.int .i64 0,.int .i64 0,.int .i64 0,.bool false] ((ig x).map dA.cs) i wr))
 case atStart=>exact⟨0,Nat.zero_le _,aG,rfl,Q0⟩
 case round=>
  obtain⟨i,hi,lS,rfl,J⟩:=hrel;clear Q0;have H:=hide (HOX.out.keep J.out.fr ZW.out);have s0:=(aj H.out.b3 0).trans rfl;by_cases hlt:i<nt
  ·have eY:(i:Int)<(nt:Int):=aG
   refine Zm ?_;intro hi0;have hl:i<((ig x).map dA.cs).length:=by rw[List.length_map,Pk.out];exact hlt
   obtain⟨g,cap,e,-,-,-⟩:=Kd.MC J.out.row (by rw[List.length_append,List.length_replicate,List.length_drop];omega);injection e with e1 e2 e3
   subst e1 e3;obtain⟨⟨⟨u0,a0⟩,⟨u1,a1⟩,⟨u2,a2⟩,⟨u3,a3⟩,⟨u4,a4⟩⟩,⟨f0,f1,f2,f3,f4⟩,hsp⟩:=J.out.step hl eU;have Q2:=hide hsp;clear e2 hl hsp;exact Ga
  ·obtain rfl:nt=i:=aG
   obtain⟨w8,rfl⟩:∃q,q=wr:=⟨_,rfl⟩;have RT8:=hide J.out.row;have HF8:=hide J.out.fr;have RU8:=hide (bW rfl RU7.out (fun k hk=>J.out.fr.block k (Nat.lt_of_lt_of_le (Oc.out k hk).2 akL) (fun q=>HNE.out k q hk)));have hn8:((ig x).map dA.cs).length≤nt:=by rw[List.length_map,Pk.out];exact Nat.le_refl _
   rw[List.drop_eq_nil_of_le hn8,List.append_nil]at RT8;have hs8:W7.heap.size≤w8.heap.size:=J.out.fr.size;have H8:=hide H.out;have Q1:=hide (show SP 37 W1.heap.size w8 (.slice Au nu TG) [.int .i64 0,.int .i64 0,.int .i64 0,.string ⟨#[115,112,111,105,108,116]⟩,.bool false] ((fZ x).map bV.cs) 0 w8 from⟨by simpa using RU8.out,Fr.refl _ _⟩);clear J hn8;go_wp2;clear s0 H;go_loopg [13] (nu+1) (fun gk v13 wr=>∃i:Nat,i≤nu∧nu-i<gk∧v13= .int .i64 i∧Aside0 (SP 37 W1.heap.size w8 (.slice Au nu TG) [.int .i64 0,.int .i64 0,.int .i64 0,.string ⟨#[115,112,111,105,108,116]⟩,.bool false] ((fZ x).map bV.cs) i wr))
   case atStart=>exact⟨0,Nat.zero_le _,aG,rfl,Q1⟩
   case round=>
    obtain⟨i,hi,lS,rfl,J⟩:=hrel;clear Q1;have H:=hide (H8.out.keep J.out.fr Oc.out);have s1:=(aj H.out.b3 1).trans rfl;by_cases hlt:i<nu
    ·have eY:(i:Int)<(nu:Int):=aG
     refine Zm ?_;intro hi0;have hl:i<((fZ x).map bV.cs).length:=by rw[List.length_map,TD.out];exact hlt
     obtain⟨g,cap,e,-,-,-⟩:=Kd.MC J.out.row (by rw[List.length_append,List.length_replicate,List.length_drop];omega);injection e with e1 e2 e3
     subst e1 e3;obtain⟨⟨⟨u0,a0⟩,⟨u1,a1⟩,⟨u2,a2⟩,⟨u3,a3⟩,⟨u4,a4⟩⟩,⟨f0,f1,f2,f3,f4⟩,hsp⟩:=J.out.step hl eU;have Q2:=hide hsp;clear e2 hl hsp;exact O6
    ·obtain rfl:nu=i:=aG
     obtain⟨Gl,rfl⟩:∃q,q=wr:=⟨_,rfl⟩;have ahj:=hide (bW rfl RT8.out (fun k hk=>J.out.fr.block k (Nat.lt_of_lt_of_le (ZW.out k hk).2 (Nat.le_trans akL hs8)) (fun q=>HNE.out k hk q)));have acz:=hide J.out.row;have akM:((fZ x).map bV.cs).length≤nu:=by rw[List.length_map,TD.out];exact Nat.le_refl _
     rw[List.drop_eq_nil_of_le akM,List.append_nil]at acz;obtain⟨LT,hLT⟩:∃l,List.replicate nt [Value.string ⟨#[115,112,111,105,108,116]⟩,.int .i64 0,.int .i64 0,.int .i64 0,.bool false]=l:=⟨_,rfl⟩;obtain⟨LU,hLU⟩:∃l,List.replicate nu [Value.int .i64 0,.int .i64 0,.int .i64 0,.string ⟨#[115,112,111,105,108,116]⟩,.bool false]=l:=⟨_,rfl⟩;have HLT:=hide (show LT.length=nt from by rw[←hLT,List.length_replicate]);have HLU:=hide (show LU.length=nu from by rw[←hLU,List.length_replicate]);rw[hLT]at ahj;rw[hLU]at acz;have avt:W7.heap.size≤Gl.heap.size:=Nat.le_trans hs8 J.out.fr.size;have L10:=hide (show Below W1.heap.size W1 Gl from L7.out.trans ((HF8.out.below hs7 (fun k q=>(ZW.out k q).1)).trans (J.out.fr.below (Nat.le_trans hs7 hs8) (fun k q=>(Oc.out k q).1))));have acA:=hide (fun k (hk:bQ (.slice At nt Ma) k)=>show k<Gl.heap.size from by have:=(ZW.out k hk).2;omega);have akN:=hide (fun k (hk:bQ (.slice Au nu TG) k)=>show k<Gl.heap.size from by have:=(Oc.out k hk).2;omega);have yx:=hide (show W1.heap.size≤Gl.heap.size from aG)
     have iQ:=hide (fun(W:World) (hf:Fr (bQ (.slice At nt Ma)) Gl W)=>show W.cell? ⟨w2.heap.size,0,none⟩=some (.slice At nt Ma)∧W.cell? ⟨w2.heap.size,1,none⟩=some (.slice Au nu TG)from by
      have m:=(H.out.keep hf ZW.out).b3;exact⟨(aj m 0).trans rfl,(aj m 1).trans rfl⟩)
     have HRU:=hide (fun(W:World) (hf:Fr (bQ (.slice At nt Ma)) Gl W)=>bW rfl acz.out (fun k hk=>hf.block k (akN.out k hk) (fun q=>HNE.out k q hk)));clear J akM hLT hLU RT8 RU8 RU7 RT7;go_wp2;clear s1;have hb0:Below Gl.heap.size Gl Gl.drew:=bq (Below.refl _ _);refine bX (n:=14) (S:=fun w'=>w'.cell? ⟨w2.heap.size,0,none⟩=some (.slice At nt Ma)∧w'.cell? ⟨w2.heap.size,1,none⟩=some (.slice Au nu TG)) (ds:=[11]) #[false,false,false,false,false,false,false,false,false,false,false,false,false,false] dL rfl rfl ⟨(iQ.out _ (Fr.of_below hb0)).1,(iQ.out _ (Fr.of_below hb0)).2⟩ (fun hHeld=>?_);obtain⟨wd,hwd⟩:∃wd,wd=Gl.drew:=⟨_,rfl⟩;rw[←hwd]at hHeld⊢;have KF:=hide (show FK W1.heap.size Gl (.slice At nt Ma) LT nt none none none wd from FK.start ahj.out gX);clear hwd hb0;refine pv 0 60 ?_;refine pv 2 62 ?_;refine pv 3 63 ?_;refine pv 6 66 ?_;refine pv 8 68 ?_;refine pv 9 69 ?_;refine tv 1 61 hHeld ?_;refine tv 7 67 hHeld ?_;refine ah4 (σ:=Nat×Nat×Value) 3 #[true,true,true,true,true,true,true,true,true,true,true,false,false,false] (fun s=>[(64,.slice (some ⟨s.1,0,none⟩) 2 2),(65,s.2.2),(70,.slice (some ⟨s.2.1,0,none⟩) 2 2)]) (fun s w'=>FK W1.heap.size Gl (.slice At nt Ma) LT nt (some s.1) (some s.2.1) (some s.2.2) w') ?_ ?_;rotate_left
     ·intro ZX
      refine ah3 (i:=4) (j:=10) (Ni:=some 64) (Nj:=some 70) #[true,true,true,true,true,false,true,true,true,true,false,false,false,false] #[true,true,true,true,false,false,true,true,true,true,true,false,false,false] rfl rfl rfl rfl dL wN wN (fun K hK=>?_) (fun K hK=>?_)
      ·skip
       refine gW (w1:=?_) (v:=?_) Nr rfl ?_ ?_;rotate_left 2
       ·exact Xt
       obtain⟨X_4,hX⟩:∃q,wd.alloc (.cells (Df++Df).toArray 43)=q:=⟨_,rfl⟩;have Ji:=hX;simp only[Df,List.cons_append,List.nil_append]at Ji;rw[Ji];have DV:=hide (KF.out.four);rw[hX]at DV;clear hX Ji;refine hK.out _ _ ⟨(iQ.out _ DV.out.fr).1,(iQ.out _ DV.out.fr).2⟩ (fun hHeld=>?_);clear hK K;refine cK (a':=?_) ?_ ?_;rotate_left
       ·exact ZY
       refine ah3 (i:=5) (j:=10) (Ni:=some 65) (Nj:=some 70) #[true,true,true,true,true,true,true,true,true,true,false,false,false,false] #[true,true,true,true,true,false,true,true,true,true,true,false,false,false] rfl rfl rfl rfl dL wN wN (fun K hK=>?_) (fun K hK=>?_)
       ·skip
        refine Kd.jr K5 (Rr:=ZU) (w0:=Gl) W1.heap.size Nr (.tmp 61) (.tmp 64) 25 43 Ab 48 rfl Tryz.underlying25 xI rfl wN aG (.slice At nt Ma) LT [Df,Df] (some ⟨wd.heap.size,0,none⟩) 2 2 (fun k=>W1.heap.size≤k) (fun _=>False) rfl rfl (DV.out.rt rfl) (vD rfl (by simp[Df,Value.oneCell']) (DV.out.n4 _ rfl).2) (fun _ _ h=>h) (fun _ h=>h.elim) (fun k h=>Nat.le_trans yx.out (Nat.le_trans DV.out.fr.size h)) (DV.out.fr.below yx.out (fun k q=>(ZW.out k q).1)) (Nat.le_trans yx.out DV.out.fr.size) (by rw[HLT.out];omega) ?_;intro v5 aez h1 h2 h3 h4;have Po:=hide (DV.out.five HLT.out acA.out h1 h3);clear h1 h2 h3 h4;refine hK.out _ _ ⟨(iQ.out _ Po.out.fr).1,(iQ.out _ Po.out.fr).2⟩ (fun hHeld=>?_);clear hK K;refine cK (a':=?_) ?_ ?_;rotate_left
        ·exact ZJ
        refine iw (i:=10) (N:=some 70) #[true,true,true,true,true,true,true,true,true,true,true,false,false,false] rfl rfl dL wN (fun K hK=>?_);refine gW (w1:=?_) (v:=?_) Nr rfl ?_ ?_;rotate_left 2
        ·exact Xt
        obtain⟨akO,hX⟩:∃q,aez.alloc (.cells (EN++EN).toArray 37)=q:=⟨_,rfl⟩;have Ji:=hX;simp only[EN,List.cons_append,List.nil_append]at Ji;rw[Ji];have vE:=hide (Po.out.ten);rw[hX]at vE;clear hX Ji;refine hK.out _ _ ⟨(iQ.out _ vE.out.fr).1,(iQ.out _ vE.out.fr).2⟩ (fun hHeld=>?_);clear hK K;refine cK (a':=?_) ?_ ?_;rotate_left
        ·show Act.put _ (some 70) _=_
         exact aad
        exact cK aC (ZX (wd.heap.size,aez.heap.size,v5) _ vE.out)
       ·skip
        refine gW (w1:=?_) (v:=?_) Nr rfl ?_ ?_;rotate_left 2
        ·exact Xt
        obtain⟨aqf,hX⟩:∃q,X_4.alloc (.cells (EN++EN).toArray 37)=q:=⟨_,rfl⟩;have Ji:=hX;simp only[EN,List.cons_append,List.nil_append]at Ji;rw[Ji];have oq:=hide (DV.out.ten);rw[hX]at oq;clear hX Ji;refine hK.out _ _ ⟨(iQ.out _ oq.out.fr).1,(iQ.out _ oq.out.fr).2⟩ (fun hHeld=>?_);clear hK K;refine cK (a':=?_) ?_ ?_;rotate_left
        ·show Act.put _ (some 70) _=_
         exact aad
        refine iw (i:=5) (N:=some 65) #[true,true,true,true,true,true,true,true,true,true,true,false,false,false] rfl rfl dL wN (fun K hK=>?_);refine Kd.jr K5 (Rr:=ZU) (w0:=Gl) W1.heap.size Nr (.tmp 61) (.tmp 64) 25 43 Ab 48 rfl Tryz.underlying25 xI rfl wN aG (.slice At nt Ma) LT [Df,Df] (some ⟨wd.heap.size,0,none⟩) 2 2 (fun k=>W1.heap.size≤k) (fun _=>False) rfl rfl (oq.out.rt rfl) (vD rfl (by simp[Df,Value.oneCell']) (oq.out.n4 _ rfl).2) (fun _ _ h=>h) (fun _ h=>h.elim) (fun k h=>Nat.le_trans yx.out (Nat.le_trans oq.out.fr.size h)) (oq.out.fr.below yx.out (fun k q=>(ZW.out k q).1)) (Nat.le_trans yx.out oq.out.fr.size) (by rw[HLT.out];omega) ?_;intro v5 akP h1 h2 h3 h4;have zC:=hide (oq.out.five HLT.out acA.out h1 h3);clear h1 h2 h3 h4;refine hK.out _ _ ⟨(iQ.out _ zC.out.fr).1,(iQ.out _ zC.out.fr).2⟩ (fun hHeld=>?_);clear hK K;refine cK (a':=?_) ?_ ?_;rotate_left
        ·exact ZJ
        exact cK aC (ZX (wd.heap.size,X_4.heap.size,v5) _ zC.out)
      ·skip
       refine gW (w1:=?_) (v:=?_) Nr rfl ?_ ?_;rotate_left 2
       ·exact Xt
       obtain⟨ahk,hX⟩:∃q,wd.alloc (.cells (EN++EN).toArray 37)=q:=⟨_,rfl⟩;have Ji:=hX;simp only[EN,List.cons_append,List.nil_append]at Ji;rw[Ji];have QW:=hide (KF.out.ten);rw[hX]at QW;clear hX Ji;refine hK.out _ _ ⟨(iQ.out _ QW.out.fr).1,(iQ.out _ QW.out.fr).2⟩ (fun hHeld=>?_);clear hK K;refine cK (a':=?_) ?_ ?_;rotate_left
       ·show Act.put _ (some 70) _=_
        exact aad
       refine iw (i:=4) (N:=some 64) #[true,true,true,true,true,false,true,true,true,true,true,false,false,false] rfl rfl dL wN (fun K hK=>?_);refine gW (w1:=?_) (v:=?_) Nr rfl ?_ ?_;rotate_left 2
       ·exact Xt
       obtain⟨aqg,hX⟩:∃q,ahk.alloc (.cells (Df++Df).toArray 43)=q:=⟨_,rfl⟩;have Ji:=hX;simp only[Df,List.cons_append,List.nil_append]at Ji;rw[Ji];have ou:=hide (QW.out.four);rw[hX]at ou;clear hX Ji;refine hK.out _ _ ⟨(iQ.out _ ou.out.fr).1,(iQ.out _ ou.out.fr).2⟩ (fun hHeld=>?_);clear hK K;refine cK (a':=?_) ?_ ?_;rotate_left
       ·exact ZY
       refine iw (i:=5) (N:=some 65) #[true,true,true,true,true,true,true,true,true,true,true,false,false,false] rfl rfl dL wN (fun K hK=>?_);refine Kd.jr K5 (Rr:=ZU) (w0:=Gl) W1.heap.size Nr (.tmp 61) (.tmp 64) 25 43 Ab 48 rfl Tryz.underlying25 xI rfl wN aG (.slice At nt Ma) LT [Df,Df] (some ⟨ahk.heap.size,0,none⟩) 2 2 (fun k=>W1.heap.size≤k) (fun _=>False) rfl rfl (ou.out.rt rfl) (vD rfl (by simp[Df,Value.oneCell']) (ou.out.n4 _ rfl).2) (fun _ _ h=>h) (fun _ h=>h.elim) (fun k h=>Nat.le_trans yx.out (Nat.le_trans ou.out.fr.size h)) (ou.out.fr.below yx.out (fun k q=>(ZW.out k q).1)) (Nat.le_trans yx.out ou.out.fr.size) (by rw[HLT.out];omega) ?_;intro v5 akQ h1 h2 h3 h4;have zD:=hide (ou.out.five HLT.out acA.out h1 h3);clear h1 h2 h3 h4;refine hK.out _ _ ⟨(iQ.out _ zD.out.fr).1,(iQ.out _ zD.out.fr).2⟩ (fun hHeld=>?_);clear hK K;refine cK (a':=?_) ?_ ?_;rotate_left
       ·exact ZJ
       exact cK aC (ZX (ahk.heap.size,wd.heap.size,v5) _ zD.out)
     rintro⟨b4,b10,v5⟩ w12 hFK;obtain⟨A5,c5,e5⟩:=hFK.v5 _ rfl;simp only at e5;subst e5;have FKE:=hide hFK;clear hFK;have hHeld:=iQ.out w12 FKE.out.fr;refine cK (a':=Act.put (Act.put (Act.put _ (some 64) _) (some 65) _) (some 70) _) rfl ?_;refine cK (a':=?_) ?_ ?_;rotate_left
     ·exact aad
     refine eF (i:=11) (N:=some 71) #[true,true,true,true,true,true,true,true,true,true,true,true,false,false] rfl rfl dL wN (fun K hK=>?_);refine Kd.jr K5 (Rr:=ZU) (w0:=Gl) W1.heap.size Nr (.tmp 67) (.tmp 70) 26 37 xH 48 rfl Tryz.underlying26 jZ rfl wN aG (.slice Au nu TG) LU [EN,EN] (some ⟨b10,0,none⟩) 2 2 (fun k=>W1.heap.size≤k) (fun _=>False) rfl rfl (HRU.out w12 FKE.out.fr) (vD rfl (by simp[EN,Value.oneCell']) (FKE.out.n10 _ rfl).2) (fun _ _ h=>h) (fun _ h=>h.elim) (fun k h=>Nat.le_trans yx.out (Nat.le_trans FKE.out.fr.size h)) (FKE.out.fr.below yx.out (fun k q=>(ZW.out k q).1)) (Nat.le_trans yx.out FKE.out.fr.size) (by rw[HLU.out];omega) ?_;intro v11 w13 h1 h2 h3 h4;obtain⟨A11,c11,rfl,-,-⟩:=Kd.bL h1;rw[show(LU++[EN,EN]).length=nu+2 from by rw[List.length_append,HLU.out];rfl];have F13:=hide (Fr.grown (Fr.refl (bQ (.slice Au nu TG)) w12) h3 (fun k e=> .inl e));clear h1 h2 h3 h4;refine hK.out _ _ ?_;clear hK K;refine cK (a':=?_) ?_ ?_;rotate_left
     ·show Act.put _ (some 71) _=_
      exact aad
     refine pv 12 14 ?_;refine pv 13 15 ?_;refine dP dL ?_;have ahl:=FKE.out.fr;have H12:=H.out.keep ahl ZW.out;have H13:=hide (H12.keep F13.out Oc.out);have l12:=L10.out.trans (ahl.below yx.out (fun k q=>(ZW.out k q).1));have L13:=hide (l12.trans (F13.out.below l12.size (fun k q=>(Oc.out k q).1)));clear ahl H12 l12 FKE F13 iQ HRU hHeld acA akN L10 yx ahj acz HLT HLU H H8 HOX HF8;have d1:decide (nt+2<2)=false:=decide_eq_false aG;have d2:decide ((nt:Int)+2<2)=false:=decide_eq_false aG;have d3:decide (nu+2<2)=false:=decide_eq_false aG;have d4:decide ((nu:Int)+2<2)=false:=decide_eq_false aG;go_wp2_with (go_at_call 16;refine Aside0.out ?_);refine⟨?_⟩;refine(l5.calls blt w13 rfl).mono ?_;rintro e w14 ⟨vp,rfl,h1,h2⟩;obtain⟨gp,cp,rfl,hgp,-,-⟩:=Kd.MC h1 wN;rw[show blt.length=5 from rfl]at h1⊢;obtain⟨z0,z1⟩:=Kd.Ak ⟨#[]⟩ h1 (0:Int) aG aG;rw[show(0:Int).toNat=0 from rfl]at z0 z1;have L15:=hide (show Below w13.heap.size w13 (w14.setCell ⟨gp,0,none⟩ (.string ⟨#[115,112,111,105,108,116]⟩))from h2.setCell (p:=⟨gp,0,none⟩) hgp _);clear h1 h2;go_wp2_with (go_at_call 16;refine Aside0.out ?_);refine⟨?_⟩;obtain⟨w15,Rx⟩:∃W,w14.setCell ⟨gp,0,none⟩ (.string ⟨#[115,112,111,105,108,116]⟩)=W:=⟨_,rfl⟩;rw[Rx]at L15⊢;clear z0 z1 Rx d1 d2 d3 d4;refine(rX w15).mono ?_;rintro e w16 ⟨A16,c16,rfl,-,acB,akR⟩;obtain⟨aqn,rfl⟩:=kZ acB wN;rw[show blt.length=5 from rfl]at acB⊢;have ahm:=L15.out.trans (akR.mono L15.out.size);have h16:=H13.out.below ahm;have L16:=hide (L13.out.trans (ahm.mono L13.out.size));have y0:w16.cell? ⟨w4.heap.size,0,none⟩=some (.slice Bt nt bt):=(aj h16.b6 0).trans rfl;have y1:w16.cell? ⟨w4.heap.size,1,none⟩=some (.slice Bu nu bu):=(aj h16.b6 1).trans rfl;have y2:w16.cell? ⟨w6.heap.size,0,none⟩=some (.slice Ct nt ct):=(aj h16.b9 0).trans rfl;have y3:w16.cell? ⟨w6.heap.size,1,none⟩=some (.slice Cu nu cu):=(aj h16.b9 1).trans rfl;have HSA:=hide (ZQ (ig x) (fZ x) nt nu Pk.out TD.out akK akI Bt Ct Bu Cu bt ct bu cu w16 (R_C h16.r1).2.2 (R_C h16.r3).2.2 (R_C h16.r2).2.2 (R_C h16.r4).2.2);have aqp:=hide acB;clear acB akR ahm h16 L15 H13 L13;go_wp2_with (go_at_call 17;refine Aside0.out ?_);refine⟨?_⟩;refine HSA.out.mono ?_;rintro e w17 ⟨rfl,ahn⟩
     have s0:w17.cell? aqn=some (.string ⟨#[112,97,114,115,101]⟩):=by
      have q:=Yy (kL aqp.out ahn) wN (k:=0) (s:=U2) rfl;rw[add_zero']at q;exact q
     have L17:=hide (L16.out.trans (ahn.mono L16.out.size));have aqs:=hide (rA.out _ L17.out).rd.tab;clear ahn y0 y1 y2 y3 L16;go_wp2_with (go_at_call 9;refine Aside0.out ?_);refine⟨?_⟩;refine(oG w17 aqs.out).mono ?_;rintro e w18 ⟨rfl,akS⟩;have HE:=hide (B1.out.trans ((L17.out.trans (akS.mono L17.out.size)).mono B1.out.size));clear akS;go_wp2;go_ret;exact⟨rfl,HE.out⟩
theorem acC {W:World}(x:Tr)(lx:Low x)(A:Option Addr)(c:Nat)(hr:Rd W x A c)(w:World)(hw:w=W):
  Calls Tryz.prog 6 #[nd x A c] w fun e w'=>e= .returned (.bool true)∧Below w.heap.size w w':=by
 subst hw;exact ZV x lx.fit (by have:=yw lx;omega) A c w hr
end Go.Proofs.YtldgmneijipbjaaGreatDoor.H
