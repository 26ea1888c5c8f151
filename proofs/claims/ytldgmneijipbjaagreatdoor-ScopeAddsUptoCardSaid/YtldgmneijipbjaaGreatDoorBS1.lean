import Derived.Test.YtldgmneijipbjaaGreatDoorBS0
import Derived.Test.YtldgmneijipbjaaGreatDoorBPA
import Derived.Lib.ValidLaws
import Derived.Lib.TrimUEq
import Derived.Lib.OthersKept
import Derived.BigGuardPart
import Derived.Test.YtldgmneijipbjaaGreatDoorBM0
import Derived.Test.YtldgmneijipbjaaGreatDoorBF0
import Derived.Test.YtldgmneijipbjaaGreatDoorBMac
set_option linter.unusedVariables false
set_option linter.unusedSimpArgs false
set_option maxRecDepth 100000
set_option maxHeartbeats 16000000
section
namespace Go.Proofs.YtldgmneijipbjaaGreatDoor.H
open Go.RowKit Go.Shelf Go.Lib Go.Proofs.YtldgmneijipbjaaGreatDoorW.PrintWords Go.Proofs.YtldgmneijipbjaaGreatDoorW.PrintLast Go.Proofs.YtldgmneijipbjaaGreatDoorW.PrintMore
open PScopeOwn
def JW (v:Int):Bool:=(aY.f 4 v).getD false
def nW (v:Int):Bool:=decide (48≤v)&&decide (v≤57)
def Fu (first:Bool)(v:Int):Bool:=v==95||v==36||JW v||(!first&&nW v)
def ni:Nat→Bool→List UInt8→Bool
 |0,_,_=>true
 |n+1,f,l=>if l=[]then true else Fu f ((decodeL l).1:Nat)&&ni n false (l.drop (decodeL l).2)
theorem pE (f:Bool):∀n,ni n f []=true
 |0=>rfl
 |_+1=>by simp[ni]
theorem w_:∀(n m:Nat) (f:Bool) (l:List UInt8),l.length≤n→l.length≤m→ni n f l=ni m f l
 |0,m,f,l,hn,_=>by
  have:l=[]:=List.eq_nil_of_length_eq_zero aG;subst this;rw[pE,pE]
 |n+1,0,f,l,_,hm=>by
  have:l=[]:=List.eq_nil_of_length_eq_zero aG;subst this;rw[pE,pE]
 |n+1,m+1,f,l,hn,hm=>by
  unfold ni;by_cases hne:l=[]
  ·simp[hne]
  ·have hw:=decodeL_width l
   have hl:0<l.length:=List.length_pos_iff.2 hne;rw[if_neg hne,if_neg hne,w_ n m false (l.drop (decodeL l).2) Bn Bn]
def Fv (f:Bool)(l:List UInt8):Bool:=ni l.length f l
theorem tZ (f:Bool)(l:List UInt8)(hne:l≠[]):Fv f l=(Fu f ((decodeL l).1:Nat)&&Fv false (l.drop (decodeL l).2)):=by
 have hl:0<l.length:=List.length_pos_iff.2 hne;have hw:=decodeL_width l;obtain⟨n,hn⟩:∃n,l.length=n+1:=⟨l.length-1,aG⟩;unfold Fv;rw[hn];show(if l=[]then true else _)=_;rw[if_neg hne,w_ n (l.drop (decodeL l).2).length false _ Bn (Nat.le_refl _)]
abbrev bl (s:ByteArray):List UInt8:=s.data.toList
def eG (s:ByteArray):Bool:=validD (bl s)
def eP (s:ByteArray):Bool:=!(bl s).isEmpty&&(Fv true (bl s)&&eG s)
def kr:List ByteArray:=[⟨#[99,108,97,115,115]⟩,⟨#[99,111,110,115,116]⟩,⟨#[100,101,102,97,117,108,116]⟩,⟨#[101,108,115,101]⟩,⟨#[101,120,112,111,114,116]⟩,⟨#[102,97,108,115,101]⟩,⟨#[102,117,110,99,116,105,111,110]⟩,⟨#[105,102]⟩,⟨#[105,109,112,111,114,116]⟩,⟨#[108,101,116]⟩,⟨#[110,101,119]⟩,⟨#[110,117,108,108]⟩,⟨#[114,101,116,117,114,110]⟩,⟨#[116,104,105,115]⟩,⟨#[116,104,114,111,119]⟩,⟨#[116,114,117,101]⟩,⟨#[116,121,112,101,111,102]⟩,⟨#[117,110,100,101,102,105,110,101,100]⟩,⟨#[119,104,105,108,101]⟩]
theorem UA:uV.f=some kr:=rfl
def jE (l:List ByteArray)(s:ByteArray):Bool:=l.any fun t=>decide (t=s)
def nH (s:ByteArray):Bool:=eP s&&!jE kr s
theorem amu (k:Nat)(v:Int)(x:Bool):∃b,aY.j2 (k+1) v x=some b:=by
 simp only[aY.j2]
 repeat' split
 all_goals exact⟨_,rfl⟩
theorem amv (k:Nat)(v:Int)(x:Bool):∃b,aY.j1 (k+2) v x=some b:=by
 simp only[aY.j1]
 repeat' split
 all_goals first|exact⟨_,rfl⟩|exact amu _ _ _
theorem amw (k:Nat)(v:Int)(x:Bool):∃b,aY.j0 (k+3) v x=some b:=by
 simp only[aY.j0]
 repeat' split
 all_goals exact amv _ _ _
theorem letter_eq (v:Int):aY.f 4 v=some (JW v):=by
 have h:∃b,aY.f 4 v=some b:=by
  unfold aY.f
  split
  all_goals exact amw _ _ _
 obtain⟨b,h⟩:=h;rw[JW,h];rfl
theorem digit_eq (v:Int):nk.f v=some (nW v):=by
 unfold nk.f nW
 split<;>simp_all<;>omega
theorem ML (v:Int)(w:World):Calls Tryz.prog 110 #[.int .i32 v] w fun e w'=>e= .returned (.bool (JW v))∧bU w w':=aY.calls 4 v _ w (letter_eq v)
theorem MN (v:Int)(w:World):Calls Tryz.prog 111 #[.int .i32 v] w fun e w'=>e= .returned (.bool (nW v))∧bU w w':=nk.calls v _ w (digit_eq v)
theorem UC (l:List ByteArray)(s:ByteArray)(hl:l.length≤1099511627776):∀d i:Nat,l.length-i=d→i≤l.length→∃j,aV.l0 (d+1) l s (l.length:Int) (i:Int)=some j∧decide (j≥0)=jE (l.drop i) s:=by
 intro d
 induction d with
 |zero=>
  intro i hi hle;refine⟨-1,?_,?_⟩
  ·simp only[aV.l0];rw[if_neg aG]
  ·exact JX
 |succ d ih=>
  intro i hi hle;obtain⟨t,ht⟩:=eO (l:=l) (i:=i) aG;have hrd:iq ByteArray.empty l (i:Int)=t:=by unfold iq;rw[Int.toNat_natCast,List.getD_eq_getElem?_getD,ht];rfl
  rw[drop_at ht];by_cases e:t=s
  ·refine⟨(i:Int),?_,?_⟩
   ·simp only[aV.l0]
    rw[if_pos aG,if_pos aG,if_pos aG,hrd,if_pos (by rw[e])]
   ·have:decide ((i:Int)≥0)=true:=decide_eq_true aG
    rw[this];simp[jE,e]
  ·obtain⟨j,h1,h2⟩:=ih (i+1) aG aG
   refine⟨j,?_,?_⟩
   ·simp only[aV.l0]
    rw[if_pos aG,if_pos aG,if_pos aG,hrd,if_neg (fun q=>e (str_eq.1 q).symm),wrap_small aG aG];exact h1
   ·rw[h2];simp[jE,e]
theorem xg (l:List ByteArray)(s:ByteArray)(hl:l.length≤1099511627776)(A:Option Addr)(c:Nat)(hc:l.length≤c)(w:World)(h:Kd.C Kd.string w A l.length l):
  Calls Tryz.prog 105 #[.slice A l.length c,.string s] w fun e w'=>e= .returned (.bool (jE l s))∧bU w w':=by
 obtain⟨j,h1,h2⟩:=UC l s hl l.length 0 aG aG;refine eH.calls (l.length+1) A c l s _ w h hc ?_;unfold eH.f aV.f;rw[show((0:Nat):Int)=0 from rfl]at h1;rw[h1];simp only[Option.bind_some,h2,List.drop_zero]
theorem qG (s:ByteArray)(w:World)(hs:s.size≤9223372036854775807)(hT:jU w):Calls Tryz.prog 107 #[.string s] w (aH w (eG s)):=by
 have cV:Calls Tryz.prog 121 #[.string s] w _:=Any.utf8_ValidString Tryz.laysValid s w hs hT;unfold eG;generalize validD (bl s)=V at cV⊢;go_enter Tryz.func107,Tryz.ntmps107;go_wp2_with (go_at_call 121;refine cV.mono ?_;rintro e w' ⟨rfl,hb⟩);go_ret;exact⟨rfl,hb⟩
end Go.Proofs.YtldgmneijipbjaaGreatDoor.H
end
section
namespace Go.Proofs.YtldgmneijipbjaaGreatDoor.H
open Go.RowKit Go.Maps Go.WideMaps Go.Proofs.YtldgmneijipbjaaGreatDoorW.PrintWords Go.Proofs.YtldgmneijipbjaaGreatDoorW.PrintLast Go.Proofs.YtldgmneijipbjaaGreatDoorW.PrintMore
open PScopeOwn
def xk (l:List ByteArray)(s:ByteArray):Nat:=(l.filter (fun t=>decide (t=s))).length
theorem JY (l:List ByteArray)(t s:ByteArray):xk (l++[t]) s=xk l s+if s=t then 1 else 0:=by
 unfold xk;rw[List.filter_append,List.length_append];by_cases e:s=t
 ·subst e;simp
 ·simp[e,Ne.symm e]
theorem UD (l:List ByteArray)(s:ByteArray):xk l s≤l.length:=List.length_filter_le _ _
theorem Fw {l:List ByteArray}{s:ByteArray}:0<xk l s↔s∈l:=by
 unfold xk;rw[List.length_pos_iff_exists_mem];simp
def cntF (l:List ByteArray)(s:ByteArray):Option Value:=if xk l s=0 then none else some (.int .i64 (xk l s:Nat))
theorem D7 (l:List ByteArray)(t:ByteArray):(fun s=>if s=t then some (Value.int .i64 ((xk l t:Nat)+1))else cntF l s)=cntF (l++[t]):=by
 funext s
 unfold cntF;rw[JY];by_cases e:s=t
 ·subst e;simp
 ·simp[e]
theorem BD (l:List ByteArray)(s:ByteArray):(cntF l s).getD (.int .i64 0)= .int .i64 (xk l s:Nat):=by
 unfold cntF
 split
 ·rename_i h;rw[h];rfl
 ·rfl
theorem kV {l:List ByteArray}{s:ByteArray}:jE l s=true↔s∈l:=by
 unfold jE;simp only[List.any_eq_true,decide_eq_true_eq];exact⟨fun⟨t,h,e⟩=>e▸h,fun h=>⟨s,h,rfl⟩⟩
theorem Fx {l:List ByteArray}{s:ByteArray}:jE l s=false↔¬s∈l:=by rw[←kV];simp
def UE:List ByteArray→Bool
 |[]=>true
 |x::l=>!jE l x&&UE l
theorem t_ {l:List ByteArray}:UE l=true↔l.Nodup:=by
 induction l with
 |nil=>simp[UE]
 |cons x l ih=>
  rw[UE,List.nodup_cons,Bool.and_eq_true,ih,Bool.not_eq_true',Fx]
theorem Rq (l:List ByteArray)(s:ByteArray):(cntF l s).isSome=jE l s:=by
 unfold cntF
 split
 ·rename_i h
  have:¬s∈l:=fun q=>by have:=Fw.2 q;omega
  exact(Fx.2 this).symm
 ·rename_i h
  have:s∈l:=Fw.1 aG;exact(kV.2 this).symm
def texts (l:List Tr):List ByteArray:=l.map (·.f1)
def nN (l:List Tr):Bool:=UE (texts l)
theorem rH {l:List Tr}{i:Nat}{y:Tr}(h:l[i]?=some y):texts (l.take (i+1))=texts (l.take i)++[y.f1]:=by
 have hi:=(List.getElem?_eq_some_iff.1 h).1;rw[List.take_succ_eq_append_getElem hi,(List.getElem?_eq_some_iff.1 h).2];simp[texts]
structure UQ (w:World)(l:List Tr)(A:Option Addr)(i:Nat)(c:Nat)(wr:World):Prop where
 below:Below w.heap.size w wr
 map:dY wr w.heap.size i (cntF (texts (l.take i))) c
 cle:c≤i
 ceq:c=i↔(texts (l.take i)).Nodup
theorem UQ.next {w wr w1 w2:World}{l:List Tr}{A:Option Addr}{i c:Nat}{y:Tr}(q:UQ w l A i c wr)(hy:l[i]?=some y)(hb:Below wr.heap.size wr w1)
  (hm:dY w2 w.heap.size (i+1) (fun t=>if t=y.f1 then some (Value.int .i64 ((xk (texts (l.take i)) y.f1:Nat)+1))else cntF (texts (l.take i)) t) (if(cntF (texts (l.take i)) y.f1).isSome then c else c+1))(hg:w1.grownBy w2 (some w.heap.size)):
  ∃c',UQ w l A (i+1) c' w2:=by
 have hlt:=q.map.lt;have hb2:Below w.heap.size w w2:=(q.below.trans (hb.mono q.below.size)).grown hg (by have:=hb.size;have:=q.below.size;omega) (fun k e=>by cases e;exact Nat.le_refl _);have hl:(l.take i).length=i:=List.length_take_of_le (by have:=(List.getElem?_eq_some_iff.1 hy).1;omega);rw[D7,←rH hy,Rq]at hm;refine⟨_,⟨hb2,hm,?_,?_⟩⟩
 ·have:=q.cle;split<;>omega
 ·rw[rH hy,List.nodup_append]
  have h1:=q.cle;have h2:=q.ceq;by_cases e:y.f1∈texts (l.take i)
  ·rw[kV.2 e,if_pos rfl]
   exact⟨fun h=>aG,fun h=>absurd rfl (h.2.2 _ e _ (List.mem_singleton.2 rfl))⟩
  ·rw[Fx.2 e,if_neg qo]
   exact⟨fun h=>⟨h2.1 aG,qo,fun a ha b hb e2=>e (by rw[←List.mem_singleton.1 hb,←e2];exact ha)⟩,fun h=>by have:=h2.2 h.1;omega⟩
theorem BF (w:World):(zeroValue 3).run Tryz.prog w= .ok (.int .i64 0) w:=dL
theorem uf (l:List Tr)(hf:∀y,y∈l→Fit y)(hl:l.length≤2513169434843)(A:Option Addr)(c:Nat)(w:World)(h:Kd.C KT w A l.length l)(ht:jU w):
  Calls Tryz.prog 67 #[.slice A l.length c] w (aH w (nN l)):=by
 have hmm:=@run_makeMap Tryz.prog;have HT:=hide ht;have HC:=hide h;have HF:=hide hf;have Q0:=hide (show∃c,UQ w l A 0 c (w.alloc (.map #[] 0))from⟨0,au (Below.refl _ _) _,dY.made w,Nat.le_refl _,by simp[texts]⟩);obtain⟨n,hn⟩:∃n,l.length=n:=⟨_,rfl⟩;have HN:=hide hn;rw[hn]at hl⊢;clear ht h hf hn;go_enter Tryz.func67,Tryz.ntmps67;go_wp2;go_loopg [9] (n+1) (fun gk v9 wr=>∃i:Nat,i≤n∧n-i<gk∧v9= .int .i64 i∧Aside0 (∃c,UQ w l A i c wr))
 case atStart=>exact⟨0,Nat.zero_le _,aG,rfl,Q0⟩
 case round=>
  obtain⟨i,hi,lS,rfl,Q⟩:=hrel;clear Q0;by_cases hlt:i<n
  ·have eY:(i:Int)<(n:Int):=aG
   obtain⟨x,hx⟩:=eO (l:=l) (i:=i) mV;obtain⟨k,q⟩:=Q.out;obtain⟨ad,A',c',rfl,hrx,k0,k1,k2,k3⟩:=jO (kL HC.out q.below) (HT.out.below q.below) hx;obtain⟨s,hs⟩:∃s,x.f1=s:=⟨_,rfl⟩;have hss:s.size≤maxLen:=by rw[←hs];have:=(HF.out x (List.mem_of_getElem? hx)).str;unfold maxLen;omega
   have sF:=hide hss;have HX:=hide hx;have HS:=hide hs;have HQ:=hide q;obtain⟨m,hm⟩:∃m,xk (texts (l.take i)) x.f1=m:=⟨_,rfl⟩
   have hmi:m≤i:=by
    rw[←hm];have h1:=UD (texts (l.take i)) x.f1;have h2:(texts (l.take i)).length≤i:=by unfold texts;rw[List.length_map];exact List.length_take_le _ _
    omega
   have HM:=hide hm;rw[hs]at k1;have HB1:=hide (au (Below.refl wr.heap.size wr) (.cells #[.int .i64 x.f0,.string s,.int .i64 x.f2,.slice A' x.f3.length c'] 24));clear hx hrx hss hs q hm;go_wp2_with (first|(at_lookup;refine oJ _ rfl _ _ 53 rfl 3 Tryz.underlying53 (BF _) w.heap.size i k (cntF (texts (l.take i))) rfl (HQ.out.map.below HB1.out HQ.out.map.lt) s rfl sF.out (.int .i64 (m:Nat)) (by rw[BD,←HS.out,HM.out]) ?_)|(at_mapUpdate;refine qd _ rfl _ _ _ 53 rfl 3 Tryz.underlying53 w.heap.size i k (cntF (texts (l.take i))) rfl (HQ.out.map.below HB1.out HQ.out.map.lt) aqT s rfl sF.out _ rfl ?_;intro w2 hm2 hg2));have Q2:=hide (HQ.out.next HX.out HB1.out (by rw[HM.out,HS.out];exact hm2) hg2);clear hm2 hg2;exact aeb
  ·obtain rfl:i=n:=aG
   obtain⟨k,q⟩:=Q.out;have HQ:=hide q;clear q;go_wp2_with (at_len;refine Dp _ rfl _ 53 rfl 3 Tryz.underlying53 w.heap.size i k _ rfl HQ.out.map ?_);go_ret;refine⟨aI ?_,HQ.out.below⟩;have h1:=HQ.out.ceq;rw[List.take_of_length_le Np,←t_]at h1;unfold nN;rw[Bool.eq_iff_iff,←h1,beq_iff_eq];omega
end Go.Proofs.YtldgmneijipbjaaGreatDoor.H
end
section
namespace Go.Proofs.YtldgmneijipbjaaGreatDoor.H
open Go.RowKit Go.Shelf Go.Lib Go.Proofs.YtldgmneijipbjaaGreatDoorW.PrintWords Go.Proofs.YtldgmneijipbjaaGreatDoorW.PrintLast Go.Proofs.YtldgmneijipbjaaGreatDoorW.PrintMore
open PScopeOwn
structure PQ (w:World)(s:ByteArray)(pos:Nat)(wr:World):Prop where
 it:wr.heap[w.heap.size]?=some (.stringIter s pos)
 below:Below w.heap.size w wr
 eq:Fv true (bl s)=Fv (decide (pos=0)) ((bl s).drop pos)
theorem PQ.step {w wr:World}{s:ByteArray}{pos:Nat}(q:PQ w s pos wr)(hp:pos<s.size):Fv true (bl s)=(Fu (decide (pos=0)) ((Utf8.decode s pos).1:Nat)&&Fv false ((bl s).drop (pos+(Utf8.decode s pos).2))):=by
 rw[q.eq,tZ _ _ (by intro h;have:=congrArg List.length h;simp at this;omega),decodeL_drop,List.drop_drop]
theorem PQ.next {w wr w2:World}{s:ByteArray}{pos:Nat}(q:PQ w s pos wr)(hp:pos<s.size)(hs:Fu (decide (pos=0)) ((Utf8.decode s pos).1:Nat)=true)(hb:Below (w.heap.size+1) (wr.iterAt w.heap.size s (pos+(Utf8.decode s pos).2)) w2):PQ w s (pos+(Utf8.decode s pos).2) w2:=by
 have hw:1≤(Utf8.decode s pos).2:=by have:=decodeL_width ((bl s).drop pos);rwa[decodeL_drop]at this
 have hlt:=ay q.it;refine⟨(hb.block _ aG).trans (iterAt_heap wr w.heap.size s pos _ q.it),(below_iterAt q.below (Nat.le_refl _) s _).trans (hb.mono aG),?_⟩;rw[q.step hp,hs,Bool.true_and,decide_eq_false aG]
theorem MP {w wr:World}{s:ByteArray}{pos p':Nat}(q:PQ w s pos wr):Below w.heap.size w (wr.iterAt w.heap.size s p'):=below_iterAt q.below (Nat.le_refl _) s _
theorem eD {w w':World}{B:Nat}(h:bU w w'):Below B w w':=by
 obtain⟨⟨n,rfl⟩⟩:=h;exact dJ (Below.refl B w) n
theorem D_ (s:ByteArray)(w:World)(hs:s.size≤9223372036854775807)(hT:jU w):Calls Tryz.prog 66 #[.string s] w (aH w (eP s)):=by
 have HT:=hide hT;have HS:=hide hs;clear hT hs;by_cases h0:s.toList=[]
 ·have h1:(s.toList==[])=true:=by simpa using h0
  have h2:s.toList.isEmpty=true:=by simpa using h0
  have hp:eP s=false:=by unfold eP;rw[show bl s=[]from by rw[ByteArray.toList_eq]at h0;exact h0];rfl
  rw[hp];clear h0 hp;go_enter Tryz.func66,Tryz.ntmps66;go_wp2;go_ret;exact⟨rfl,Below.refl _ _⟩
 ·have h1:(s.toList==[])=false:=by simpa using h0
  have h2:s.toList.isEmpty=false:=by simpa using h0
  have hp:eP s=(Fv true (bl s)&&eG s):=by unfold eP;rw[show(bl s).isEmpty=false from by rw[ByteArray.toList_eq]at h2;exact h2];rfl
  have HP:=hide hp;clear h0 hp;have Q0:=hide (show PQ w s 0 (w.alloc (.stringIter s 0))from⟨aR w _,au (Below.refl _ _) _,qo⟩);go_enter Tryz.func66,Tryz.ntmps66;go_wp2;go_loopw [] (fun wr=>∃pos,Aside0 (PQ w s pos wr)) (fun wr=>s.size-wr.iterPos w.heap.size)
  case atStart=>exact⟨0,Q0⟩
  case round=>
   obtain⟨pos,Q⟩:=hrel;clear Q0;by_cases hlt:pos<s.size
   ·have hnx:∀ty,(Instr.next (.pointer (some ⟨w.heap.size,0,none⟩)) true ty).run Tryz.prog wr=_:=fun ty=>run_next_any_at wr w.heap.size s pos ty Q.out.it hlt
    have hst:=Q.out.step hlt;have hnn:=fun w2=>Q.out.next (w2:=w2) hlt;obtain⟨v,hv⟩:∃v:Nat,(Utf8.decode s pos).1=v:=⟨_,rfl⟩;obtain⟨p2,hp2⟩:∃p2:Nat,pos+(Utf8.decode s pos).2=p2:=⟨_,rfl⟩;rw[hv,hp2]at hnx hst hnn;have J4:=hide hnn;have HST:=hide hst;have HBI:=hide (MP (p':=p2) Q.out);have hvb:v≤2147483647:=by rw[←hv];exact decode_le s pos
    have hp3:pos<p2:=by
     have hw:1≤(Utf8.decode s pos).2:=by have:=decodeL_width ((bl s).drop pos);rwa[decodeL_drop]at this
     omega
    clear hnn hst hv hp2;go_wp2_with (first|(go_at_call 110;refine(ML _ _).mono ?_;rintro e w2 ⟨rfl,hd⟩;have HD:=hide (eD (B:=w.heap.size+1) hd);clear hd)|(go_at_call 111;refine(MN _ _).mono ?_;rintro e w3 ⟨rfl,hd⟩;have HD2:=hide (HD.out.trans (eD (B:=w.heap.size+1) hd));clear hd))
    all_goals try (have hs1:Fu (decide (pos=0)) (v:Int)=true:=by unfold Fu;simp only[Bool.or_eq_true,Bool.and_eq_true,beq_iff_eq];first|exact .inl (.inl (.inl (by assumption)))|exact .inl (.inl (.inr (by assumption)))|exact .inl (.inr (by assumption))|exact .inr ⟨Oi,by assumption⟩)
    all_goals try (have Q2:=hide (J4.out _ hs1 (Below.refl _ _));refine⟨⟨p2,Q2⟩,?_⟩;simp only[World.iterPos,Q2.out.it,Q.out.it];omega)
    ·have Q2:=hide (J4.out _ hs1 HD.out)
     refine⟨⟨p2,Q2⟩,?_⟩;simp only[World.iterPos,Q2.out.it,Q.out.it];omega
    ·have Q2:=hide (J4.out _ hs1 HD2.out)
     refine⟨⟨p2,Q2⟩,?_⟩;simp only[World.iterPos,Q2.out.it,Q.out.it];omega
    all_goals
     have hs0:Fu (decide (pos=0)) (v:Int)=false:=by
      have a1:((v:Int)==95)=false:=Oi;have a2:((v:Int)==36)=false:=Oi;unfold Fu;rw[a1,a2,show JW (v:Int)=false by assumption]
      first|(rw[show nW (v:Int)=false by assumption];simp)|(rw[decide_eq_true (show pos=0 from aG)];simp)
     have hr:Fv true (bl s)=false:=by rw[HST.out,hs0];rfl
     go_ret
     first|exact⟨aI (by rw[HP.out,hr];rfl),HBI.out.trans (HD2.out.mono aG)⟩|exact⟨aI (by rw[HP.out,hr];rfl),HBI.out.trans (HD.out.mono aG)⟩
   ·have hnx:∀ty,(Instr.next (.pointer (some ⟨w.heap.size,0,none⟩)) true ty).run Tryz.prog wr=_:=fun ty=>run_next_end_at wr w.heap.size s pos ty Q.out.it hlt
    have hr:Fv true (bl s)=true:=by rw[Q.out.eq,List.drop_eq_nil_of_le Oi];rfl
    have HR:=hide hr;clear hr;go_wp2_with (go_at_call 107;refine(qG s _ HS.out (HT.out.below Q.out.below)).mono ?_;rintro e w2 ⟨rfl,h2⟩);go_ret;exact⟨aI (by rw[HP.out,HR.out];simp),Q.out.below.trans (h2.mono Q.out.below.size)⟩
theorem Rt (w:World):Calls Tryz.prog 106 #[] w fun e w'=>∃A c,e= .returned (.slice A kr.length c)∧kr.length≤c∧Kd.C Kd.string w' A kr.length kr∧Below w.heap.size w w':=by
 refine(uV.calls kr w UA).mono ?_;exact UH
theorem aaV (s:ByteArray)(w:World)(hs:s.size≤9223372036854775807)(hT:jU w):Calls Tryz.prog 54 #[.string s] w (aH w (nH s)):=by
 have HP:=hide (D_ s w hs hT);have HI:=hide (show(eP s&&!jE kr s)=nH s from rfl);obtain⟨n,hn⟩:∃n,kr.length=n:=⟨_,rfl⟩;have HN:=hide hn;have HW:=hide (fun w=>Rt w);have HC:=hide (fun A c w=>xg kr s wN A c (w:=w));rw[hn]at HW HC;obtain⟨p,hp⟩:∃p,eP s=p:=⟨_,rfl⟩;obtain⟨i,hi⟩:∃i,jE kr s=i:=⟨_,rfl⟩;rw[hp]at HP HI;rw[hi]at HC HI;rw[←HI.out];clear hp hi hn hs hT;go_enter Tryz.func54,Tryz.ntmps54;go_wp2_with (first|(go_at_call 66;refine HP.out.mono ?_;rintro e w2 ⟨rfl,h2⟩;have HB:=hide h2;clear h2)|(go_at_call 106;refine(HW.out _).mono ?_;rintro e w3 ⟨A,c,rfl,hc,hC,h3⟩;have HB3:=hide (HB.out.trans (h3.mono HB.out.size));have HCC:=hide hC;clear h3 hC)|(go_at_call 105;refine(HC.out A c _ hc HCC.out).mono ?_;rintro e w4 ⟨rfl,hd⟩;have jV:=hide (HB3.out.trans (eD hd));clear hd))
 all_goals
  go_ret
  first|exact⟨aI MK,jV.out⟩|exact⟨aI MK,HB.out⟩
end Go.Proofs.YtldgmneijipbjaaGreatDoor.H
end
section
namespace Go.Proofs.YtldgmneijipbjaaGreatDoor.H
open Go.RowKit Go.Proofs.YtldgmneijipbjaaGreatDoorW.PrintWords Go.Proofs.YtldgmneijipbjaaGreatDoorW.PrintLast Go.Proofs.YtldgmneijipbjaaGreatDoorW.PrintMore
open PScopeOwn
def lT (s:ByteArray)(n:Int):Bool:=s.toList.isEmpty&&n==0
def gT:Tr→Bool
 |⟨k,s,n,l⟩=>k==14&&(lT s n&&l.isEmpty)
def unB (s:ByteArray):Bool:=s.toList==[45]||(s.toList==[33]||s.toList==[116,121,112,101,111,102])
def Rs (s:ByteArray):Bool:=s.toList==[43]||(s.toList==[45]||(s.toList==[42]||(s.toList==[47]||(s.toList==[37]||(s.toList==[61,61,61]||(s.toList==[33,61,61]||(s.toList==[60]||(s.toList==[60,61]||(s.toList==[62]||(s.toList==[62,61]||(s.toList==[38,38]||s.toList==[124,124])))))))))))
def MO (s:ByteArray):Bool:=s.toList==[110,117,108,108]||s.toList==[117,110,100,101,102,105,110,101,100]
def qH (k:Int)(s:ByteArray)(n:Int):Bool:=
 if k=1 then s.toList.isEmpty&&(decide (0≤n)&&decide (n≤9007199254740991))else if k=2 then n==0&&eG s else if k=3 then s.toList.isEmpty&&(n==0||n==1)
 else if k=4∨k=5∨k=7 then lT s n else if k=6 then n==0&&nH s else false
inductive Co|E|T|S|P|PT|Pa|PaT|Pr|TPr
inductive Wr|i|no|bk|bn|tg|nu|nm
def BH:Wr→Tr→Bool→Bool
 | .i,_,b=>b
 | .no,x,b=>gT x||b
 | .bk,x,b=>x.f0==52&&b
 | .bn,x,b=>gT x||(x.f0==52&&b)
 | .tg,x,b=>(x.f0==6||(x.f0==21||x.f0==22))&&b
 | .nu,x,b=>!(x.f0==32)&&b
 | .nm,x,b=>x.f0==6&&b
mutual
def Q:Co→Tr→Bool
 |c,⟨k,s,n,l⟩=>match c with
  | .E=>if k=8 then lT s n&&QL .i .E l else if k=9 then lT s n&&QL .i .Pr l else if k=11 then lT s n&&QR [(.i,.P),(.no,.T),(.bk,.S)] l
   else if k=15 then(n==0&&unB s)&&QR [(.i,.E)] l else if k=16 then(n==0&&Rs s)&&QR [(.i,.E),(.i,.E)] l else if k=17 then lT s n&&QR [(.i,.E),(.i,.E),(.i,.E)] l
   else if k=18 then lT s n&&QR [(.tg,.E),(.i,.E)] l else if k=19 then(lT s n&&!l.isEmpty)&&QL .i .E l else if k=20 then(n==0&&nH s)&&QL .i .E l
   else if k=21 then(n==0&&eP s)&&QR [(.i,.E)] l else if k=22 then lT s n&&QR [(.i,.E),(.i,.E)] l else l.isEmpty&&qH k s n
  | .T=>if k=30 then(n==0&&l.isEmpty)&&(nH s||MO s)else if k=31 then lT s n&&QR [(.i,.T)] l else if k=32 then(lT s n&&decide (2≤l.length))&&QL .nu .T l
   else if k=33 then(lT s n&&nN l)&&QL .i .TPr l else if k=35 then lT s n&&QR [(.i,.PT),(.i,.T)] l else false
  | .S=>if k=40 then(nH s&&(n==0||n==1))&&QR [(.no,.T),(.i,.E)] l else if k=41 then(nH s&&n==0)&&QR [(.i,.P),(.no,.T),(.bk,.S)] l
   else if k=47∨k=51 then lT s n&&QR [(.i,.E)] l else if k=48 then lT s n&&QR [(.i,.E),(.bk,.S),(.bn,.S)] l else if k=49 then lT s n&&QR [(.i,.E),(.bk,.S)] l
   else if k=50 then lT s n&&QR [(.no,.E)] l else if k=52 then lT s n&&QL .i .S l else false
  | .P=>k==12&&(lT s n&&(nN l&&QL .i .Pa l))
  | .PT=>k==12&&(lT s n&&(nN l&&QL .i .PaT l))
  | .Pa=>k==13&&(nH s&&(n==0&&QR [(.no,.T)] l))
  | .PaT=>k==13&&(nH s&&(n==0&&QR [(.i,.T)] l))
  | .Pr=>k==10&&(eP s&&(n==0&&QR [(.i,.E)] l))
  | .TPr=>k==34&&(eP s&&(n==0&&QR [(.i,.T)] l))
def QL:Wr→Co→List Tr→Bool
 |_,_,[]=>true
 |w,c,x::l=>BH w x (Q c x)&&QL w c l
def QR:List (Wr×Co)→List Tr→Bool
 |[],[]=>true
 |t::ts,x::l=>BH t.1 x (Q t.2 x)&&QR ts l
 |_,_=>false
end
def wq (t:Wr×Co)(x:Tr):Bool:=BH t.1 x (Q t.2 x)
theorem yH (w:Wr)(c:Co):∀l,QL w c l=l.all (wq (w,c))
 |[]=>by rw[QL];rfl
 |x::l=>by rw[QL,yH w c l];rfl
theorem vZ:∀(ts:List (Wr×Co)) (l:List Tr),QR ts l=rO (ts.map wq) l
 |[],[]=>by rw[QR];rfl
 |[],_::_=>by simp[QR,rO]
 |_::_,[]=>by simp[QR,rO]
 |t::ts,x::l=>by rw[QR,vZ ts l];rfl
section
variable (k:Int) (s:ByteArray) (n:Int) (A:Option Addr) (len c:Nat) (w:World)
theorem bI:Calls Tryz.prog 27 #[.agg #[.int .i64 k,.string s,.int .i64 n,.slice A len c],.bool false,.bool false] w (aH w (lT s n)):=by
 go_enter Tryz.func27,Tryz.ntmps27;go_wp2
 all_goals
  go_ret;exact⟨aI (by simp[lT, *]),au (Below.refl _ _) _⟩
theorem J2:Calls Tryz.prog 71 #[.string s] w (aH w (Rs s)):=by
 go_enter Tryz.func71,Tryz.ntmps71;go_wp2
 all_goals
  go_ret;exact⟨aI (by simp_all [Rs]),Below.refl _ _⟩
end
end Go.Proofs.YtldgmneijipbjaaGreatDoor.H
end
