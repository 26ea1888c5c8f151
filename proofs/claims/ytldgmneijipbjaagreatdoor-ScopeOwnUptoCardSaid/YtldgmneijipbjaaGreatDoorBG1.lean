import Derived.Test.YtldgmneijipbjaaGreatDoorBS0
import Derived.Test.YtldgmneijipbjaaGreatDoorBMac
set_option linter.unusedVariables false
set_option linter.unusedSimpArgs false
set_option maxRecDepth 100000
set_option maxHeartbeats 16000000
namespace Go.Proofs.YtldgmneijipbjaaGreatDoor.H
open Go.RowKit Go.Proofs.YtldgmneijipbjaaGreatDoorW.PrintWords Go.Proofs.YtldgmneijipbjaaGreatDoorW.PrintLast Go.Proofs.YtldgmneijipbjaaGreatDoorW.PrintMore
open PScopeOwn
mutual
def flat:Tr→List Tr
 |⟨k,s,n,l⟩=>⟨k,s,n,l⟩::aM l
def aM:List Tr→List Tr
 |[]=>[]
 |x::l=>flat x++aM l
end
theorem gD (x:Tr):flat x=x::aM x.f3:=by obtain⟨a,b,c,l⟩:=x;rw[flat]
theorem nX (a b:List Tr):aM (a++b)=aM a++aM b:=by
 induction a with
 |nil=>simp[aM]
 |cons x a ih=>rw[List.cons_append,aM,aM,ih,List.append_assoc]
theorem MR {l:List Tr}{i:Nat}{y:Tr}(h:l[i]?=some y):aM (l.take (i+1))=aM (l.take i)++flat y:=by
 have hi:=(List.getElem?_eq_some_iff.1 h).1;rw[List.take_succ_eq_append_getElem hi,(List.getElem?_eq_some_iff.1 h).2,nX];simp[aM]
theorem xA {x:Tr}{i:Nat}{y:Tr}(h:x.f3[i]?=some y):flat x=(x::aM (x.f3.take i))++(flat y++aM (x.f3.drop (i+1))):=by
 have e:x.f3=x.f3.take i++(y::x.f3.drop (i+1)):=by rw[←drop_at h,List.take_append_drop]
 rw[gD,List.cons_append]
 congr 1
 conv=>lhs;rw[e,nX,aM]
theorem oM (x:Tr):0<(flat x).length:=by rw[gD];simp
theorem Ry {W:World}{ok:Nat→Prop}{x:Tr}{cs:List Value}(h:Kd.FK k24 W ok x cs):∃A3 c3,cs=[.int .i64 x.f0,.string x.f1,.int .i64 x.f2,.slice A3 x.f3.length c3]∧x.f3.length≤c3∧Kd.F k24 W ok A3 x.f3.length x.f3:=by
 obtain⟨A3,c3,rfl,l3,_⟩:=Bl (Kd.aeR h);exact⟨A3,c3,rfl,l3,(fun W' hW=>by obtain⟨A3_,c3_,he,l3_,g3_⟩:=Bl (h W' hW);injection (Option.some.inj (show some (Value.slice A3 x.f3.length c3)=some (Value.slice A3_ x.f3.length c3_)from congrArg (fun l=>l[3]?) he))with ha_ _ _;rw[ha_];exact g3_)⟩
structure Ap (w:World)(ok:Nat→Prop)(x:Tr)(A:Option Addr)(c:Nat):Prop where
 kids:Kd.F KT w ok A x.f3.length x.f3
 cap:x.f3.length≤c
theorem Ap.rd {w W:World}{ok:Nat→Prop}{x:Tr}{A:Option Addr}{c:Nat}(h:Ap w ok x A c)(hW:∀k,ok k→W.heap[k]?=w.heap[k]?)(t:jU W):Rd W x A c:=⟨h.kids W (fun k hk _=>hW k hk),h.cap,t⟩
theorem Ap.kid {w:World}{ok:Nat→Prop}{x:Tr}{A:Option Addr}{c:Nat}(h:Ap w ok x A c){i:Nat}{y:Tr}(hy:x.f3[i]?=some y):
  ∃ad A' c',A=some ad∧Ap w ok y A' c'∧∀W:World,(∀k,ok k→W.heap[k]?=w.heap[k]?)→W.cell? (ad.add (i*4))=some (.int .i64 y.f0)∧W.cell? ⟨(ad.add (i*4)).block,(ad.add (i*4)).off+1,none⟩=some (.string y.f1)∧W.cell? ⟨(ad.add (i*4)).block,(ad.add (i*4)).off+2,none⟩=some (.int .i64 y.f2)∧W.cell? ⟨(ad.add (i*4)).block,(ad.add (i*4)).off+3,none⟩=some (.slice A' y.f3.length c'):=by
 have hi:i<x.f3.length:=(List.getElem?_eq_some_iff.1 hy).1;obtain⟨ad,cs,rfl,hcl,hF,hcc,hok⟩:=Kd.ah8 h.kids z24 (i:Int) aG aG;have hs:KT.sz=4:=rfl;have e1:x.f3.getD (i:Int).toNat z24=y:=by rw[Int.toNat_natCast,List.getD_eq_getElem?_getD,hy];rfl
 rw[e1]at hF;rw[hs,Int.toNat_natCast]at hcc;obtain⟨A',c',rfl,l3,g3⟩:=Ry hF;have ank:ok ad.block:=hok (by rw[hs];decide);refine⟨ad,A',c',rfl,⟨g3,l3⟩,fun W hW=>?_⟩
 have hc:∀j u,([.int .i64 y.f0,.string y.f1,.int .i64 y.f2,.slice A' y.f3.length c']:List Value)[j]?=some u→W.cell? (ad.add (i*4+j))=some u:=fun j u hu=>by
  have hb:(ad.add (i*4+j)).block=ad.block:=add_block _ _;exact(World.cell?_of_block (w:=w) (w':=W) (a:=ad.add (i*4+j)) (by rw[hb];exact hW _ ank)).trans (hcc j u hu)
 exact⟨hc 0 _ rfl,Bo,Ns,yS⟩
abbrev KV:Kd (List Value):=Kd.raw 4
structure Lays (w0:World)(D:Nat)(L:List Tr)(ys:List (List Value)):Prop where
 len:ys.length=L.length
 get:∀(j:Nat) (y:Tr),L[j]?=some y→∃A c,ys[j]?=some (Ao y A c)∧Ap w0 (fun k=>k<D) y A c
theorem Lays.nil (w0:World)(D:Nat):Lays w0 D [] []:=⟨rfl,fun j y h=>by simp at h⟩
theorem Lays.append {w0:World}{D:Nat}{L L':List Tr}{ys ys':List (List Value)}(h:Lays w0 D L ys)(h':Lays w0 D L' ys'):Lays w0 D (L++L') (ys++ys'):=by
 refine⟨by rw[List.length_append,List.length_append,h.len,h'.len],fun j y hj=>?_⟩;by_cases hlt:j<L.length
 ·exact Vh
 ·rw[List.getElem?_append_right aG]at hj
  rw[List.getElem?_append_right (by rw[h.len];omega),h.len];exact h'.get _ y hj
theorem Lays.one {w0:World}{D:Nat}{y:Tr}{A:Option Addr}{c:Nat}(h:Ap w0 (fun k=>k<D) y A c):Lays w0 D [y] [Ao y A c]:=by
 refine⟨rfl,fun j z hj=>?_⟩
 cases j with
 |zero=>simp at hj;subst hj;exact⟨A,c,rfl,h⟩
 |succ j=>simp at hj
def bQ (v:Value)(k:Nat):Prop:=v.ownBlock=some k
def OwnAt (W:World)(v v1:Value):Prop:=v1.ownBlock=v.ownBlock∨∃b,v1.ownBlock=some b∧W.heap.size≤b
theorem OwnAt.own {W:World}{v v1:Value}(h:OwnAt W v v1)(k:Nat)(hk:bQ v1 k):bQ v k∨W.heap.size≤k:=by
 unfold bQ at*;rcases h with h|⟨b,h,hb⟩
 ·exact .inl (h▸hk)
 ·rw[h]at hk;cases hk;exact .inr hb
theorem OwnAt.trans {W W1:World}{v v1 v2:Value}(h:OwnAt W v v1)(h2:OwnAt W1 v1 v2)(hs:W.heap.size≤W1.heap.size):OwnAt W v v2:=by
 rcases h2 with h2|⟨b,h2,hb⟩
 ·rcases h with h|⟨b,h,hb⟩
  ·exact .inl (h2.trans h)
  ·exact .inr ⟨b,h2.trans h,hb⟩
 ·exact .inr ⟨b,h2,aG⟩
structure Flt (w0:World)(D:Nat)(v:Value)(xs:List (List Value))(L:List Tr)(W:World)(v1:Value)(W':World):Prop where
 row:∃ys,KV.R 24 W' D (fun k=>D≤k) v1 (xs++ys)∧Lays w0 D L ys
 fr:Fr (bQ v) W W'
 own:OwnAt W v v1
theorem Flt.below {w0 W W':World}{D:Nat}{v v1:Value}{xs:List (List Value)}{L:List Tr}(q:Flt w0 D v xs L W v1 W')(hb:Below D w0 W)(hD:D≤W.heap.size)(hv:∀k,bQ v k→D≤k):Below D w0 W':=hb.trans (q.fr.below hD hv)
theorem Flt.next {w0 w wr w2:World}{D:Nat}{v v1 v2:Value}{xs:List (List Value)}{L L2:List Tr}(q:Flt w0 D v xs L w v1 wr){ys:List (List Value)}(hl:Lays w0 D L ys)(h:Flt w0 D v1 (xs++ys) L2 wr v2 w2):Flt w0 D v xs (L++L2) w v2 w2:=by
 obtain⟨zs,h1,h2⟩:=h.row;exact⟨⟨ys++zs,by rw[←List.append_assoc];exact h1,hl.append h2⟩,q.fr.trans h.fr (fun k hk=>q.own.own k hk),q.own.trans h.own q.fr.size⟩
structure FQ (w0:World)(D:Nat)(v:Value)(xs:List (List Value))(x:Tr)(A:Option Addr)(c n:Nat)(w:World)(i:Nat)(v1:Value)(wr:World):Prop where
 q:Flt w0 D v xs (x::aM (x.f3.take i)) w v1 wr
 box:wr.heap[w.heap.size]?=some (.cells #[.int .i64 x.f0,.string x.f1,.int .i64 x.f2,.slice A n c] 24 (0,0))
 ne:¬bQ v1 w.heap.size
theorem FC:Kd.Heap KT:=Kd.Uc (fun d hd=>Kd.Ua _ (Kd.yE (Kd.JE .i64) (Kd.yE Kd.JF (Kd.yE (Kd.JE .i64) (Kd.ME 24 hd)))))
theorem aaZ (w0:World)(D:Nat)(m:Nat):∀(x:Tr),SizeOf.sizeOf x≤m→Fit x→∀(A:Option Addr) (c:Nat) (v:Value) (xs:List (List Value)) (w:World),Below D w0 w→D≤w.heap.size→Ap w0 (fun k=>k<D) x A c→KV.R 24 w D (fun k=>D≤k) v xs→(xs.length+(flat x).length)*56≤140737488355328→
  Calls Tryz.prog 10 #[nd x A c,v] w fun e w'=>∃v1,e= .returned v1∧Flt w0 D v xs (flat x) w v1 w':=by
 induction m with
 |zero=>intro x hx;obtain⟨a,b,c,d⟩:=x;simp[jh.mk.sizeOf_spec]at hx
 |succ m ih=>
  intro x hx hf A c v xs w hb hD hr hrow hbig;have IH:=hide (fun(y:Tr) (hy:y∈x.f3)=>ih y (by have:=fJ hy;omega) (hf.kid hy));obtain⟨n,hn⟩:∃n,x.f3.length=n:=⟨_,rfl⟩;have hnb:n≤2513169434843:=by rw[←hn];exact hf.len
  have hpos:=oM x;have HB:=hide hb;have HD:=hide hD;have HR:=hide hr;have lq:=hide hrow;have Dr:=hide hbig;have HN:=hide hn;have HL:=hide (show(xs.length+1)*56≤140737488355328 from aG);unfold nd;rw[hn];clear ih hx hf hb hD hr hrow hbig hn hpos;go_enter Tryz.func10,Tryz.ntmps10;go_wp2_with ((with_reducible refine cO (b:= .append) (xs:=#[.tmp 6,.tmp 8]) rfl ?_);at_builtin;refine Aside0.out ?_);refine⟨?_⟩;refine Kd.gP KV (w0:=w0) D rfl (.tmp 6) (.tmp 8) 22 24 (.agg #[.int .i64 0,.string ⟨#[]⟩,.int .i64 0,.slice none 0 0]) 56 rfl Tryz.underlying22 rD rfl wN aG v xs (Ao x A c) [.int .i64 x.f0,.string x.f1,.int .i64 x.f2,.slice A n c] (fun k=>D≤k) (fun _=>False) rfl ?aX ?aP (fun _ hk=>hk.elim) ?aF ?aO ?aB ?aS ?aL ?_
  case aX=>rw[World.size_alloc];rfl
  case aP=>exact⟨by rw[←HN.out],rfl,eU⟩
  case aF=>exact fun k hk=>Nat.le_trans HD.out (Nat.le_trans qo hk)
  case aO=>exact Kd.iU lq.out _
  case aB=>exact HB.out.alloc HD.out _
  case aS=>exact Nat.le_trans HD.out qo
  case aL=>exact HL.out
  intro v1 w1 h1 h2 h3 h4;have A1:=hide h1;have A3:=hide h3;have A4:=hide h4;clear h1 h2 h3 h4;have hv:∀k,bQ v k→D≤k:=fun k hk=>lq.out.1 k hk;have hvl:∀k,bQ v k→k<w.heap.size:=fun k hk=>Kd.vF lq.out k hk
  have hbx:w1.heap[w.heap.size]?=some (.cells #[.int .i64 x.f0,.string x.f1,.int .i64 x.f2,.slice A n c] 24 (0,0)):=
   (A3.out.block _ qo (fun e=>by have:=hvl _ e.symm;omega)).trans (aR w _)
  have hk:∀j,j<4→w1.cell? ⟨w.heap.size,j,none⟩=(#[.int .i64 x.f0,.string x.f1,.int .i64 x.f2,.slice A n c]:Array Value)[j]?:=fun j _=>aj hbx j;have c3:w1.cell? ⟨w.heap.size,3,none⟩=some (.slice A n c):=(aj hbx 3).trans rfl
  have Q0:=hide (show FQ w0 D v xs x A c n w 0 v1 w1 from⟨⟨⟨[Ao x A c],A1.out,by simpa [aM]using Lays.one HR.out⟩,(Fr.alloc (Fr.refl _ w) _).grown A3.out (fun k e=> .inl e),A4.out.imp_right (fun⟨b,h1,h2⟩=>⟨b,h1,by simp at h2;omega⟩)⟩,hbx,fun h=>by
   unfold bQ at h;rcases A4.out with e|⟨b,e,hb⟩
   ·rw[e]at h;have:=hvl _ h;omega
   ·rw[e]at h;cases h;simp at hb;omega⟩)
  have HV:=hide hv;have Dt:=hide hvl;clear A1 A3 A4 hbx hk HL hv hvl;go_wp2;clear c3;go_loopg [5,1] (n+1) (fun gk v5 v1 wr=>∃i:Nat,i≤n∧n-i<gk∧v5= .int .i64 i∧Aside0 (FQ w0 D v xs x A c n w i v1 wr))
  case atStart=>exact⟨0,Nat.zero_le _,aG,rfl,Q0⟩
  case round=>
   obtain⟨i,hi,lS,rfl,Q⟩:=hrel;clear Q0;have hbw:=Q.out.q.below HB.out HD.out HV.out;refine VT ?_;intro c3;by_cases hlt:i<n
   ·refine WU ?_
    intro eY y hy;obtain⟨ad,A',c',rfl,dR,hcells⟩:=HR.out.kid hy;have hDw:D≤w0.heap.size∨True:= .inr trivial;refine Cr ?_;intro k0 k1 k2 k3 kC iH sV;clear hy dR hcells hbw hDw;go_wp2_with (go_at_call 10;refine Aside0.out ?_);refine⟨?_⟩;obtain⟨ys,hro,hla⟩:=Q.out.q.row
    have hbig:((xs++ys).length+(flat y).length)*56≤140737488355328:=by
     have h1:=congrArg List.length (xA iH.out);have h2:=Dr.out;have h3:=hla.len;simp only[List.length_append,List.length_cons]at h1 h3⊢;omega
    refine(IH.out y (bZ iH.out) A' c' u1 (xs++ys) _ sV.out (Nat.le_trans HD.out Q.out.q.fr.size) kC.out hro hbig).mono ?_;rintro e w2 ⟨v2,rfl,h2⟩;have hlb:=ay Q.out.box;have Q2:=hide (show FQ w0 D v xs x (some ad) c n w (i+1) v2 w2 from⟨by rw[MR iH.out,←List.cons_append];exact Q.out.q.next hla h2,(h2.fr.block _ hlb Q.out.ne).trans Q.out.box,fun h=>(h2.own.own _ h).elim Q.out.ne (fun h=>aG)⟩);clear hlb;clear hro hla hbig h2 k0 k1 k2 k3 c3;go_wp2;exact aeb
   ·obtain rfl:i=n:=aG
    go_wp2;go_ret;refine⟨_,rfl,?_⟩;have e2:flat x=x::aM (x.f3.take i):=by rw[gD,List.take_of_length_le Np]
    rw[e2];exact Q.out.q
theorem UJ (x:Tr)(hf:Fit x)(A:Option Addr)(c:Nat)(w:World)(h:Rd w x A c)(hb:(flat x).length≤1048576):
  Calls Tryz.prog 10 #[nd x A c,.slice none 0 0] w fun e w'=>∃A2 c2 ys,e= .returned (.slice A2 (flat x).length c2)∧KV.R 24 w' w.heap.size (fun k=>w.heap.size≤k) (.slice A2 (flat x).length c2) ys∧Lays w w.heap.size (flat x) ys∧Below w.heap.size w w':=by
 refine(aaZ w w.heap.size _ x (Nat.le_refl _) hf A c (.slice none 0 0) [] w (Below.refl _ _) (Nat.le_refl _) ⟨Kd.C_F FC h.kids,h.cap⟩ (Kd.jm _ _ _ _ _) Oi).mono ?_;rintro e w' ⟨v1,rfl,q⟩;obtain⟨ys,h1,h2⟩:=q.row;rw[List.nil_append]at h1;obtain⟨A2,c2,rfl,-,-⟩:=Kd.bL h1;rw[h2.len];rw[h2.len]at h1 q;exact⟨A2,c2,ys,rfl,h1,h2,q.fr.below (Nat.le_refl _) (fun k hk=>by simp[bQ,Value.ownBlock]at hk)⟩
theorem Eb {w0 W:World}{D base:Nat}{ok:Nat→Prop}{L:List Tr}{ys:List (List Value)}{v:Value}(h:KV.R 24 W base ok v ys)(hl:Lays w0 D L ys)(hb:∀k,k<D→W.heap[k]?=w0.heap[k]?):∃A c,v= .slice A L.length c∧L.length≤c∧Kd.C KT W A L.length L:=by
 obtain⟨A,c,rfl,hc,hC⟩:=Kd.bL h;rw[hl.len]at hc hC;refine⟨A,c,by rw[hl.len],hc,?_⟩;refine⟨rfl,hC.2.1,fun hp=>?_⟩;obtain⟨ad,e,hg⟩:=hC.2.2 hp;refine⟨ad,e,fun j y hj=>?_⟩;obtain⟨A',c',h1,h2⟩:=hl.get j y hj;obtain⟨cs,h3,h4,h5⟩:=hg j _ h1;have hcs:cs=Ao y A' c':=h4.1;subst hcs;exact⟨_,rfl,EZ W y h2.cap (h2.kids W (fun k hk _=>hb k hk)),h5⟩
end Go.Proofs.YtldgmneijipbjaaGreatDoor.H
