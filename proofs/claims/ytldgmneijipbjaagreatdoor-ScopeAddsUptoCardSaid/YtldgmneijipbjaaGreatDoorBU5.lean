import Derived.Test.YtldgmneijipbjaaGreatDoorBRG
import Derived.Test.YtldgmneijipbjaaGreatDoorBU4
import Derived.RangeFuncCalls
import Derived.RangeFuncLeaves
import Derived.RangeFuncBox
import Derived.Shelf.Abstract
import Derived.Shelf.RegionOpen
import Derived.OwnWalkIn
import Derived.TacticsInMore
import Derived.LoopNIn
import Derived.LoopIn
import Derived.Stop.RegionWithIn
import Derived.Maps.OwnIn
import Derived.Test.YtldgmneijipbjaaGreatDoorBMac
set_option linter.unusedVariables false
set_option linter.unusedSimpArgs false
set_option maxRecDepth 100000
set_option maxHeartbeats 16000000
section
namespace Go.Proofs.YtldgmneijipbjaaGreatDoor.H
open Go.RowKit Go.Shelf Go.Proofs.YtldgmneijipbjaaGreatDoorW.PrintWords Go.Proofs.YtldgmneijipbjaaGreatDoorW.PrintLast Go.Proofs.YtldgmneijipbjaaGreatDoorW.PrintMore
open PScopeOwn
structure SE where
 i:Nat
 b:Nat
def SE.enc (x:SE):Array Value:=#[.int .i64 (x.i:Nat),.map (some x.b)]
def SV (ms:List Nat)(pre:List SE)(x:SE)(W:World):Prop:=x.i+pre.length+1=ms.length∧ms[x.i]?=some x.b
structure BQ (X:Nat→Prop)(J:List SE→World→Prop)(j:Nat)(W wr:World):Prop where
 pre:∃pre:List SE,pre.length=j∧J pre wr
 fr:Fr X W wr
def afC (ms:List Nat):List (List Value):=ms.map (fun b=>[Value.map (some b)])
theorem M8 (X:Nat→Prop)(n:Nat)(ms:List Nat)(hms:ms.length≤1099511627776)(A:Option Addr)(c bx:Nat)(w:World)(hbx:w.heap[bx]?=some (.cells #[.slice A ms.length c] 54 (0,0)))(hXb:¬X bx)(hC:∀W:World,(∀k,k<w.heap.size→¬X k→W.heap[k]?=w.heap[k]?)→K1.C W A ms.length (afC ms)):
  Hands Fence.wide n Tryz.prog 122 #[.pointer (some ⟨bx,0,none⟩)] SE.enc (SV ms) (fun _=>X) (fun xs=>xs.length=ms.length) (fun _=>True) ms.length w:=by
 intro l J Jx W hb hJ hJx hY h0;obtain⟨len,hlen⟩:∃len,ms.length=len:=⟨_,rfl⟩;have HL:=hide hlen;have HY:=hide hY;have HJ:=hide hJ;have HC:=hide hC;have HB:=hide hb;have dI:=hide hbx;have hlb:len≤1099511627776:=by rw[←hlen];exact hms
 have c0:W.cell? ⟨bx,0,none⟩=some (.slice A len c):=by rw[←hlen];exact(aj ((hb.block _ (ay hbx)).trans hbx) 0).trans rfl
 have Q0:=hide (show BQ X J 0 W W from⟨⟨[],rfl,h0⟩,Fr.refl _ _⟩);clear hY hJ hJx hC hb hbx h0 hlen hms;refine callsIn_of_wp Tryz.func122 rfl trivial ?_ rfl;simp only[Tryz.ntmps122,List.size_toArray,List.length_cons,List.length_nil,Nat.reduceAdd,Nat.reduceSub,Array.replicate_succ,Array.replicate_zero,List.push_toArray,List.append_toArray,List.nil_append,List.cons_append]
 gi_wp2
 clear c0
 gi_loopw [3] (fun v3 wr=>∃j:Nat,j≤len∧v3= .int .i64 ((len:Int)-1-j)∧Aside0 (BQ X J j W wr)) (fun v3 _=>(intOf v3+1).toNat)
 case atStart=>exact⟨0,Nat.zero_le _,Nb,Q0⟩
 case round=>
  obtain⟨j,hj,rfl,Q⟩:=hrel;clear Q0;by_cases hlt:j<len
  ·obtain⟨i,hi⟩:∃i:Nat,i+j+1=len:=⟨len-1-j,aG⟩
   have e1:(len:Int)-1-(j:Int)=(i:Int):=aG;rw[e1];refine Zm ?_;intro hi0;have hil:(i:Int)<(len:Int):=aG;obtain⟨b,hb⟩:∃b,ms[i]?=some b:=⟨_,List.getElem?_eq_getElem (by rw[HL.out];omega)⟩;obtain⟨pre,hpl,hjp⟩:=Q.out.pre;have hww:∀k,k<w.heap.size→¬X k→wr.heap[k]?=w.heap[k]?:=fun k hk hn=>(Q.out.fr.block k (Nat.lt_of_lt_of_le hk HB.out.size) hn).trans (HB.out.block k hk);have c0:wr.cell? ⟨bx,0,none⟩=some (.slice A len c):=by rw[←HL.out];exact(aj ((hww _ (ay dI.out) hXb).trans dI.out) 0).trans rfl
   obtain⟨ad,rfl,hc⟩:=(HC.out wr hww).2.2 (by rw[HL.out];omega);obtain⟨cs,g2,g1,g3⟩:=hc i [.map (some b)] (by unfold afC;rw[List.getElem?_map,hb];rfl);obtain⟨rfl,-,-⟩:=g1;have k0:wr.cell? (ad.add i)=some (.map (some b)):=by have:=g3 0 (.map (some b)) rfl;rw[show K1.sz=1 from rfl,Nat.mul_one,Nat.add_zero]at this;exact this
   have hyl:YieldAt Fence.wide (n-1) Tryz.prog l #[.int .i64 (i:Nat),.map (some b)] wr (fun e W'=>∃q:Bool,e= .returned (.bool (!q))∧((q=false∧J (pre++[⟨i,b⟩]) W'∧Fr X wr W')∨(q=true∧Jx (pre++[⟨i,b⟩]) W'))):=(HY.out pre ⟨i,b⟩ wr hjp Q.out.fr.size ⟨by show i+pre.length+1=_;rw[hpl,HL.out];exact hi,hb⟩ (by rw[hpl,HL.out];exact hlt)).mono (fun e W' h=>by
    rcases h with⟨rfl,h1,h2⟩|⟨rfl,h1⟩
    ·exact⟨false,rfl,.inl ⟨rfl,h1,h2⟩⟩
    ·exact⟨true,rfl,.inr ⟨rfl,h1⟩⟩)
   obtain⟨fn,tmps,assign,body,hy,hR⟩:=hyl;have HP:=hide hpl;clear hc g2 g3 hb hjp hpl hww
   gi_wp2_with ((try refine⟨trivial,(fun h=>by cases h),?_⟩);(try refine⟨(fun h=>by cases h),?_⟩);refine hR.mono ?_;rintro e W3 ⟨q,rfl,hp⟩;have Kl:=hide hp;clear hp)
   ·((try simp only[Exit.inBlock,Exit.then]);refine bodyPost_ret (results_none rfl _ _ _) rfl ?_)
    refine⟨⟨_,rfl⟩,.inr ⟨pre++[⟨i,b⟩],trivial,?_⟩⟩;rcases Kl.out with⟨h1,h2⟩|⟨h1,h2⟩
    ·subst h1;simp_all
    ·exact h2
   ·have hp2:J (pre++[⟨i,b⟩]) W3∧Fr X wr W3:=by
     rcases Kl.out with⟨h1,h2⟩|⟨h1,h2⟩
     ·exact h2
     ·subst h1;simp_all
    have Q2:=hide (show BQ X J (j+1) W W3 from⟨⟨pre++[⟨i,b⟩],by rw[List.length_append,HP.out];rfl,hp2.1⟩,Q.out.fr.trans hp2.2 (fun k h=> .inl h)⟩);refine⟨⟨j+1,aG,?_,Q2⟩,?_⟩
    ·have e2:(i:Int)-1=(len:Int)-1-((j+1:Nat):Int):=aG
     rw[e2]
    ·simp only[intOf];omega
  ·obtain rfl:j=len:=aG
   obtain⟨pre,hpl,hjp⟩:=Q.out.pre;have HP:=hide (show pre.length=ms.length from by rw[hpl,HL.out]);have HJP:=hide hjp;have e1:(j:Int)-1-(j:Int)= -1:=aG;rw[e1];clear hpl hjp
   gi_wp2
   go_end0;exact⟨⟨_,rfl⟩,.inl ⟨pre,HP.out,HJP.out⟩⟩
end Go.Proofs.YtldgmneijipbjaaGreatDoor.H
end
section
namespace Go.Proofs.YtldgmneijipbjaaGreatDoor.H
open Go.RowKit Go.Shelf Go.Proofs.YtldgmneijipbjaaGreatDoorW.PrintWords Go.Proofs.YtldgmneijipbjaaGreatDoorW.PrintLast Go.Proofs.YtldgmneijipbjaaGreatDoorW.PrintMore
section
variable {P:Program} {ops:Array Oper} {Q:Exit→Act→World→Prop} {md:Region.Mode} {l m:Nat}
theorem aa_ {o:Oper}{a:Act}{K:Act→World→Prop}(r:Result Next)(h:Oper.upon P o a K Q r):Oper.uponIn (Fence.wide.inRound l) m P o a K Q r:=by
 have hd:(Fence.wide.inRound l).depth.isSome=true→1≤m:=fun h=>by cases h
 cases r with
 |ok x w'=>
  cases x with
  |value v=>exact h
  |skip=>exact h
  |defer d=>exact h
  |enter f args=>exact⟨hd,CallsIn.inRound l (callsIn_wide.2 h)⟩
  |row row args=>
   refine⟨hd,fun c cs _=>?_⟩;obtain⟨v,w2,h1,h2⟩:=h c cs;exact⟨v,w2,h1,stepsIn_wide.2 h2⟩
  |round=>exact False.elim h
  |_=>exact h
 |halt x w'=>cases x<;>first|exact h|exact False.elim h
def Az (ops:Array Oper):Bool:=ops.all fun o=>match o.op with| .defer _=>false|_=>true
theorem Gb (h:Az ops=true){i:Nat}{o:Oper}(ho:ops[i]?=some o):∀c,o.op≠.defer c:=by
 intro c e;have:=Array.all_eq_true_iff_forall_mem.1 h o (Array.mem_of_getElem? ho);rw[e]at this
 cases this
theorem abb (hnl:¬LetsOut Q)(hd:Az ops=true){i:Nat}{K:Act→World→Prop}{a:Act}{w:World}(h:wpOp P ops Q i K a w):wpOpIn (Fence.wide.inRound l) m P ops Q i K a w:=by
 unfold wpOp at h;unfold wpOpIn
 cases ho:ops[i]? with
 |none=>rw[ho]at h;exact h
 |some o=>
  rw[ho]at h;simp only at h⊢
  split at h
  ·rename_i hw
   rw[if_pos hw];rcases h with h|⟨_,h⟩
   ·refine⟨fun _ _=>trivial,?_⟩
    rw[Oper.semAt_eq _ _ _ (Gb hd ho)];exact aa_ _ h
   ·exact absurd h hnl
  ·rename_i hw
   rw[if_neg hw];exact⟨fun _ _=>trivial,h⟩
theorem Km (hnl:¬LetsOut Q)(hd:Az ops=true):∀(fuel:Nat) (listed:Array Bool) (a:Act) (w:World),wpAny P md ops Q fuel listed a w→wpAnyIn (Fence.wide.inRound l) m P md ops Q fuel listed a w
 |0,_,_,_,h=>h
 |fuel+1,_,_,_,h=>⟨h.1,fun i hi=>abb hnl hd (wpOp_mono (fun a' w' h'=>Km hnl hd fuel _ a' w' h') (h.2 i hi))⟩
theorem Vm {id n:Nat}{a:Act}{w:World}{S:World→Prop}{ds:List Nat}(l':Array Bool)(hm:P.follows .mixedOrders=true)(hn:ops.size=n)(hl:Array.replicate n false=l')(hd:Az ops=true)(hnl:¬LetsOut Q)(hS:S w.drew)
  (h:S w.drew→bG P .any ops Q S ds n l' a w.drew):(Code.region id ops true).wpIn (Fence.wide.inRound l) m P Q a w:=by
 subst hn;subst hl;exact wpIn_region_any hm (Km hnl hd _ _ _ _ (qc _ _ _ _ (h hS)))
def mP (a:Act)(vs:List (Nat×Value)):Act:={a with tmps:=vs.foldl (fun t p=>t.setIfInBounds p.1 p.2) a.tmps}
theorem Kn {β:Type}{F:Fence}{n:Nat}{c:Code}{a:Act}{W:World}(vs:β→List (Nat×Value))(R:World→Prop)(h:c.wpIn F n P (fun e a' W2=>e= .normal∧(∃v,a'=mP a (vs v))∧R W2) a W)(k:∀v W2,R W2→Q .normal (mP a (vs v)) W2):c.wpIn F n P Q a W:=
 wpIn_mono h (by rintro e a' W2 ⟨rfl,⟨v,rfl⟩,hR⟩;exact k v _ hR)
theorem afD {A:Act→Prop}{R:World→Prop}:¬LetsOut (fun e a' W2=>e= .normal∧A a'∧R W2):=by
 rintro⟨a,w,h,-⟩
 cases h
end
end Go.Proofs.YtldgmneijipbjaaGreatDoor.H
end
section
namespace Go.Proofs.YtldgmneijipbjaaGreatDoor.H
open Go.RowKit Go.Shelf Go.Maps Go.WideMaps Go.Proofs.YtldgmneijipbjaaGreatDoorW.PrintWords Go.Proofs.YtldgmneijipbjaaGreatDoorW.PrintLast Go.Proofs.YtldgmneijipbjaaGreatDoorW.PrintMore
open PScopeOwn
theorem xK (l:List (List dQ))(x:List dQ)(s:ByteArray):iV (l++[x]) s=(kP x s).or (iV l s):=by
 unfold iV;rw[List.reverse_append,List.reverse_singleton,List.singleton_append,List.findSome?_cons]
 cases kP x s<;>rfl
theorem Gc {l:List (List dQ)}{s:ByteArray}(h:∀(j:Nat) x,l[j]?=some x→kP x s=none):iV l s=none:=by
 unfold iV;rw[List.findSome?_eq_none_iff];intro x hx;obtain⟨j,hj⟩:=List.mem_iff_getElem?.1 (List.mem_reverse.1 hx);exact h j x hj
theorem Gd {s:ByteArray}{x:List dQ}{d:dQ}(hd:kP x s=some d):∀(n:Nat) (l:List (List dQ)) (i:Nat),l.length=n→l[i]?=some x→(∀(j:Nat) y,i<j→l[j]?=some y→kP y s=none)→iV l s=some d:=by
 intro n
 induction n with
 |zero=>intro l i hl hi _;rw[List.length_eq_zero_iff.1 hl]at hi;simp at hi
 |succ n ih=>
  intro l i hl hi hn
  obtain⟨l',y,rfl⟩:∃l' y,l=l'++[y]:=by
   rcases List.eq_nil_or_concat l with e|⟨l',y,e⟩
   ·rw[e]at hl;simp at hl
   ·exact⟨l',y,by simpa using e⟩
  have hl':l'.length=n:=by simpa using hl
  rw[xK];by_cases hin:i=n
  ·have:(l'++[y])[i]?=some y:=by rw[List.getElem?_append_right aG,hl',hin];simp
   rw[this]at hi
   cases hi
   rw[hd];rfl
  ·have hlt:i<n:=by
    have:=(List.getElem?_eq_some_iff.1 hi).1;rw[List.length_append,hl']at this;simp at this;omega
   have hy:kP y s=none:=hn n y hlt (by rw[List.getElem?_append_right aG,hl'];simp);rw[hy,Option.none_or];refine ih l' i hl' (by rw[List.getElem?_append_left aG]at hi;exact hi) (fun j z hj hz=>hn j z hj ?_);rw[List.getElem?_append_left (by have:=(List.getElem?_eq_some_iff.1 hz).1;omega)];exact hz
section
variable {F:Fence} {nF:Nat} {w:World} {ops:Array Oper} {rest:List Oper} {o:Oper} {a:Act} {Q:Exit→Act→World→Prop}
theorem qN (hg:o.guard=none)(m x:Operand)(t:TypeId)(hop:o.op=Op.lookup t m x true)(e:TypeId)(ht:Tryz.prog.underlying t=some (.map 9 e)){z:Value}(hz:(zeroValue e).run Tryz.prog w= .ok z w)(b n c:Nat)(f:ByteArray→Option Value)
  (hm:a.eval m= .map (some b))(h:dY w b n f c)(s:ByteArray)(hx:a.eval x= .string s)(hs:s.size≤maxLen)(v:Value)(hv:(f s).getD z=v)(k:Bool)(hk:(f s).isSome=k)(hK:wpListIn F nF Tryz.prog ops Q rest (a.put o.dst (.tuple #[v,.bool k])) w):wpListIn F nF Tryz.prog ops Q (o::rest) a w:=by
 subst hv hk;refine wpListIn_plain hg fun K' hK'=>?_;unfold Oper.wpIn;refine⟨by simp[Oper.about,hop],?_⟩;rw[Oper.semAt_plain F _ _ (by rw[hop];intro c hc';cases hc')];simp[execOp,hop,hm,hx,(uU h ht hz s hs).2,Result.andThen];exact hK' _ _ hK
end
attribute [local go_sem] Oper.semAt_some
theorem Gi (A:Option Addr)(n c:Nat)(w:World):Calls Tryz.prog 114 #[.slice A n c] w fun e w'=>e= .returned (.func (.func 122) #[] #[.pointer (some ⟨w.heap.size,0,none⟩)])∧w'=w.alloc (.cells #[.slice A n c] 54):=by
 go_enter Tryz.func114,Tryz.ntmps114;go_wp2;go_ret;exact⟨rfl,rfl⟩
def nT (st:PS)(en:En)(s:ByteArray):Value×Bool×Bool:=match gH st en s with
 |some (k,d,f)=>(.agg #[.int .i64 0,.int .i64 k,.int .i64 d,.string s,.bool false],true,f)
 |none=>(.agg #[.int .i64 0,.int .i64 0,.int .i64 0,.string ⟨#[]⟩,.bool false],false,false)
def Gj (w:World)(s:ByteArray)(A:Option Addr)(len c:Nat):World:=
 ((((w.alloc (.cells #[.string s] 9)).alloc (.cells #[.int .i64 0,.int .i64 0,.int .i64 0,.string ⟨#[]⟩,.bool false] 37)).alloc (.cells #[.bool false] 4)).alloc (.cells #[.bool false] 4)).alloc (.cells #[.slice A len c] 54)
structure SW (w:World)(s:ByteArray)(A:Option Addr)(len c:Nat)(W:World):Prop where
 b0:W.heap[w.heap.size]?=some (.cells #[.string s] 9 (0,0))
 b1:W.heap[w.heap.size+1]?=some (.cells #[.int .i64 0,.int .i64 0,.int .i64 0,.string ⟨#[]⟩,.bool false] 37 (0,0))
 b2:W.heap[w.heap.size+2]?=some (.cells #[.bool false] 4 (0,0))
 b3:W.heap[w.heap.size+3]?=some (.cells #[.bool false] 4 (0,0))
 b4:W.heap[w.heap.size+4]?=some (.cells #[.slice A len c] 54 (0,0))
 sz:w.heap.size+5≤W.heap.size
 low:Below w.heap.size w W
theorem SW.below {w W W':World}{s:ByteArray}{A:Option Addr}{len c:Nat}(h:SW w s A len c W)(hb:Below W.heap.size W W'):SW w s A len c W':=
 ⟨(hb.block _ (ay h.b0)).trans h.b0,(hb.block _ (ay h.b1)).trans h.b1,(hb.block _ (ay h.b2)).trans h.b2,(hb.block _ (ay h.b3)).trans h.b3,(hb.block _ (ay h.b4)).trans h.b4,Nat.le_trans h.sz hb.size,h.low.trans (hb.mono h.low.size)⟩
theorem aiD (w:World)(s:ByteArray)(A:Option Addr)(len c:Nat):SW w s A len c (Gj w s A len c):=by
 unfold Gj;have q:∀(W:World) (o:Obj) (k:Nat) (o':Obj),W.heap[k]?=some o'→(W.alloc o).heap[k]?=some o':=fun W o k o' h=>(Below.heap_alloc _ _ _ (Array.getElem?_eq_some_iff.1 h).1).trans h;have n0:=aR w (.cells #[.string s] 9);have n1:=aR (w.alloc (.cells #[.string s] 9)) (.cells #[.int .i64 0,.int .i64 0,.int .i64 0,.string ⟨#[]⟩,.bool false] 37);have n2:=aR ((w.alloc (.cells #[.string s] 9)).alloc (.cells #[.int .i64 0,.int .i64 0,.int .i64 0,.string ⟨#[]⟩,.bool false] 37)) (.cells #[.bool false] 4);have n3:=aR (((w.alloc (.cells #[.string s] 9)).alloc (.cells #[.int .i64 0,.int .i64 0,.int .i64 0,.string ⟨#[]⟩,.bool false] 37)).alloc (.cells #[.bool false] 4)) (.cells #[.bool false] 4);have n4:=aR ((((w.alloc (.cells #[.string s] 9)).alloc (.cells #[.int .i64 0,.int .i64 0,.int .i64 0,.string ⟨#[]⟩,.bool false] 37)).alloc (.cells #[.bool false] 4)).alloc (.cells #[.bool false] 4)) (.cells #[.slice A len c] 54);simp only[World.size_alloc]at n1 n2 n3 n4;refine⟨q _ _ _ _ (q _ _ _ _ (q _ _ _ _ (q _ _ _ _ n0))),q _ _ _ _ (q _ _ _ _ (q _ _ _ _ n1)),q _ _ _ _ (q _ _ _ _ n2),q _ _ _ _ n3,n4,by simp only[World.size_alloc];omega,au (au (au (au (au (Below.refl _ _) _) _) _) _) _⟩
attribute [local go_sem] Oper.semAt_some
structure SI (W0:World)(en:En)(s:ByteArray)(pre:List SE)(W:World):Prop where
 low:Below W0.heap.size W0 W
 no:∀(j:Nat) l,en.fP.length≤j+pre.length→en.fP[j]?=some l→kP l s=none
structure SX (b:Nat)(W0:World)(en:En)(s:ByteArray)(W:World):Prop where
 fr:Fr (fun k=>k=b+1∨k=b+2∨k=b+3) W0 W
 hit:∃d,iV en.fP s=some d∧W.heap[b+1]?=some (.cells #[.int .i64 0,.int .i64 2,.int .i64 d.pos,.string s,.bool false] 37 (0,0))∧W.heap[b+2]?=some (.cells #[.bool true] 4 (0,0))∧W.heap[b+3]?=some (.cells #[.bool d.free] 4 (0,0))
theorem Na {n p q r:Nat}{g:Operand}{assign body:Code}{Q:Exit→Act→World→Prop}{a:Act}{W0:World}(h1:1≤n){bx:Nat}(hg:a.eval g= .func (.func 122) #[] #[.pointer (some ⟨bx,0,none⟩)])
  (X:Nat→Prop)(ms:List Nat)(hms:ms.length≤1099511627776)(A:Option Addr)(c:Nat)(hbx:W0.heap[bx]?=some (.cells #[.slice A ms.length c] 54 (0,0)))(hXb:¬X bx)(hXW:∀k,X k→k<W0.heap.size)
  (hC:∀W:World,(∀k,k<W0.heap.size→¬X k→W.heap[k]?=W0.heap[k]?)→K1.C W A ms.length (afC ms))
  (en:En)(s:ByteArray)(hlen:ms.length=en.fP.length)(Sx:World→Prop)(hSx:∀A B,Sx A→Below W0.heap.size A B→Sx B)
  (hassign:∀(l:Nat) (x:SE) (W:World) (K:Act→World→Prop),K {tmps:=((a.tmps.setIfInBounds p (.int .i64 (x.i:Nat))).setIfInBounds q (.map (some x.b))).setIfInBounds r (.map (some x.b)),defers:=[]} W→
   assign.wpIn (Fence.wide.inRound l) (n-1-1) Tryz.prog (Exit.then K (fun _ _ _=>False)) {tmps:=(a.tmps.setIfInBounds p (.int .i64 (x.i:Nat))).setIfInBounds q (.map (some x.b)),defers:=[]} W)
  (hbody:∀(l:Nat) (pre:List SE) (x:SE) (W:World),W0.heap.size≤l→(∃r,W.heap[l]?=some (.loop r))→SI W0 en s pre W→x.i+pre.length+1=ms.length→ms[x.i]?=some x.b→
   body.wpIn (Fence.wide.inRound l) (n-1-1) Tryz.prog (M7 (fun _=>X) (SI W0 en s) (fun cd pre W=>cd= .ret∧Sx W) pre x W) {tmps:=((a.tmps.setIfInBounds p (.int .i64 (x.i:Nat))).setIfInBounds q (.map (some x.b))).setIfInBounds r (.map (some x.b)),defers:=[]} W)
  (hdone:∀(D:Nat) (W:World),W0.heap.size≤D→iV en.fP s=none→Below W0.heap.size W0 W→W.heap[D]?=some (.deferred (some []))→Q .normal {a with defers:={target:= .collected D,args:=#[]}::a.defers} W)
  (hstop:∀(D:Nat) (W:World),W0.heap.size≤D→Sx W→W.heap[D]?=some (.deferred (some []))→Code.ret.wpIn Fence.wide n Tryz.prog Q {a with defers:={target:= .collected D,args:=#[]}::a.defers} W):
  (Code.rangeFunc g #[p,q] assign body).wpIn Fence.wide n Tryz.prog Q a W0:=by
 refine RO (encs:=SE.enc) rfl h1 hg trivial (enters_of Tryz.func122 dL rfl)
  (M8 X (n-1) ms hms A c bx W0 hbx hXb hC) (Below.refl _ _) (fun _=>rfl)
  (SI W0 en s) (fun cd pre W=>cd= .ret∧Sx W) (fun pre A B h hb=>⟨h.low.trans hb,h.no⟩) (fun cd pre A B h hb=>⟨h.1,hSx A B h.2 hb⟩) ⟨Below.refl _ _,fun j l hj hl=>by have:=(List.getElem?_eq_some_iff.1 hl).1;simp at hj;omega⟩
  (fun pre x a' W=>a'={tmps:=((a.tmps.setIfInBounds p (.int .i64 (x.i:Nat))).setIfInBounds q (.map (some x.b))).setIfInBounds r (.map (some x.b)),defers:=[]}) (fun pre x a' A B h _ _=>h) (fun pre x A B h _ _=>h) (fun pre x W l hv hl ho hx=>by have:=hXW l hx;omega) ?_ ?_ ?_ ?_
 ·intro l pre x W K hs hi hv hK
  have:=hassign l x W K (hK _ _ (Below.refl _ _) rfl);simpa [SE.enc]using this
 ·rintro l pre x a' W hl hs hr hi ⟨hv1,hv2⟩ rfl hlen
  exact hbody l pre x W hl hr hi hv1 hv2
 ·rintro D xs W hD hS hi hK
  exact hdone D W hD (Gc (fun j l hj=>hi.no j l (by rw[hS,hlen];omega) hj)) hi.low hK
 ·rintro D cd pre W hD-⟨rfl,hx⟩ hK
  exact hstop D W hD hx hK
end Go.Proofs.YtldgmneijipbjaaGreatDoor.H
end
