import Derived.Test.YtldgmneijipbjaaGreatDoorBS0
import Derived.Shelf.Abstract
import Derived.Test.YtldgmneijipbjaaGreatDoorBW
import Derived.Test.YtldgmneijipbjaaGreatDoorBMac
set_option linter.unusedVariables false
set_option linter.unusedSimpArgs false
set_option maxRecDepth 100000
set_option maxHeartbeats 16000000
namespace Go.Proofs.YtldgmneijipbjaaGreatDoor.H
open Go.RowKit Go.Shelf Go.Proofs.YtldgmneijipbjaaGreatDoorW.PrintWords Go.Proofs.YtldgmneijipbjaaGreatDoorW.PrintLast Go.Proofs.YtldgmneijipbjaaGreatDoorW.PrintMore
open PScopeOwn
def Fy (K:Nat)(l:List Tr)(P:Tr→Bool)(w0:World):Prop:=∀y,y∈l→∀A c w,Below w0.heap.size w0 w→Rd w y A c→Calls Tryz.prog K #[nd y A c] w (aH w (P y))
def Fz (K:Nat)(a:Option Addr)(l:List Tr)(P:Tr→Bool)(w0:World):Prop:=∀y,y∈l→∀A c w,Below w0.heap.size w0 w→Rd w y A c→Calls Tryz.prog K #[nd y A c,.pointer a] w (aH w (P y))
theorem rM {P:Program}{K:FuncId}{args:Array Value}{w:World}{Q:Ending→World→Prop}(h:Calls P K args w Q):Calls P K args w Q:=h
theorem l6 {α:Type}{l:List α}{P:α→Bool}{i:Nat}{y:α}(h:l[i]?=some y):(l.drop i).all P=(P y&&(l.drop (i+1)).all P):=by rw[drop_at h,List.all_cons]
structure AQ (w:World)(l:List Tr)(A:Option Addr)(n:Nat)(P:Tr→Bool)(i:Nat)(wr:World):Prop where
 r1:Kd.C KT wr A l.length l
 below:Below w.heap.size w wr
 eq:l.all P=(l.drop i).all P
theorem BG (K:Nat)(he:Enters Tryz.prog K)(l:List Tr)(P:Tr→Bool)(hl:l.length≤2513169434843)(A:Option Addr)(c:Nat)(w:World)(h:Kd.C KT w A l.length l)(ht:jU w)(hT:Fy K l P w):
  Calls Tryz.prog 28 #[.slice A l.length c,.func (.func K) #[] #[]] w (aH w (l.all P)):=by
 exact ac9
theorem UF (K:Nat)(a:Option Addr)(he:Enters Tryz.prog K)(l:List Tr)(P:Tr→Bool)(hl:l.length≤2513169434843)(A:Option Addr)(c:Nat)(w:World)(h:Kd.C KT w A l.length l)(ht:jU w)(hT:Fz K a l P w):
  Calls Tryz.prog 28 #[.slice A l.length c,.func (.func K) #[] #[.pointer a]] w (aH w (l.all P)):=by
 exact ac9
structure FV where
 K:Nat
 cap:Option (Option Addr)
def FV.caps (f:FV):Array Value:=match f.cap with
 |none=>#[]
 |some a=>#[.pointer a]
def FV.val (f:FV):Value:= .func (.func f.K) #[] f.caps
def FV.jA (f:FV)(y:Tr)(b:Bool)(w0:World):Prop:=∀A c w,Below w0.heap.size w0 w→Rd w y A c→Calls Tryz.prog f.K (#[nd y A c]++f.caps) w (aH w b)
def rO:List (Tr→Bool)→List Tr→Bool
 |[],[]=>true
 |P::Ps,y::l=>P y&&rO Ps l
 |_,_=>false
theorem uh {Ps:List (Tr→Bool)}:∀{l:List Tr},Ps.length≠l.length→rO Ps l=false:=by
 induction Ps with
 |nil=>intro l h;cases l with
  |nil=>simp at h
  |cons y l=>rfl
 |cons P Ps ih=>intro l h;cases l with
  |nil=>rfl
  |cons y l=>rw[rO,ih (by simpa using h)];simp
theorem D8 {Ps:List (Tr→Bool)}{l:List Tr}{i:Nat}{P:Tr→Bool}{y:Tr}(h:Ps[i]?=some P)(k:l[i]?=some y):rO (Ps.drop i) (l.drop i)=(P y&&rO (Ps.drop (i+1)) (l.drop (i+1))):=by
 rw[drop_at h,drop_at k,rO]
structure RQ (w:World)(x:Tr)(A:Option Addr)(c n:Nat)(fs:List (FV×(Tr→Bool)))(af:Addr)(i:Nat)(wr:World):Prop where
 blk:wr.heap[w.heap.size]?=some (.cells #[.int .i64 x.f0,.string x.f1,.int .i64 x.f2,.slice A n c] 24 (0,0))
 rd:Rd wr x A c
 cells:∀i v,fs[i]?=some v→wr.cell? (af.add i)=some v.1.val
 below:Below w.heap.size w wr
 eq:rO (fs.map Prod.snd) x.f3=rO ((fs.map Prod.snd).drop i) (x.f3.drop i)
theorem RQ.next {w wr w2:World}{x:Tr}{A:Option Addr}{c n:Nat}{fs:List (FV×(Tr→Bool))}{af:Addr}{i:Nat}{f:FV×(Tr→Bool)}{y:Tr}(q:RQ w x A c n fs af i wr)(hf:fs[i]?=some f)(hy:x.f3[i]?=some y)(hP:f.2 y=true)(hb:Below wr.heap.size wr w2):RQ w x A c n fs af (i+1) w2:=
 ⟨(hb.block _ (ay q.blk)).trans q.blk,q.rd.below hb,fun j v hv=>ak hb (q.cells j v hv),q.below.trans (hb.mono q.below.size),by rw[q.eq,D8 (P:=f.2) (by rw[List.getElem?_map,hf];rfl) hy,hP];rfl⟩
theorem aaR (x:Tr)(fs:List (FV×(Tr→Bool)))(hl:x.f3.length≤2513169434843)(hm:fs.length≤1000)(he:∀f,f∈fs→Enters Tryz.prog f.1.K)(A:Option Addr)(c:Nat)(af:Addr)(w:World)(h:Rd w x A c)
  (hc:∀i v,fs[i]?=some v→w.cell? (af.add i)=some v.1.val)(hT:∀(i:Nat) f y,fs[i]?=some f→x.f3[i]?=some y→f.1.jA y (f.2 y) w):
  Calls Tryz.prog 55 #[nd x A c,.slice (some af) fs.length fs.length] w (aH w (rO (fs.map Prod.snd) x.f3)):=by
 have HT:=hide hT;have HE:=hide he;have HR:=hide h;have HC:=hide hc;obtain⟨n,hn⟩:∃n,x.f3.length=n:=⟨_,rfl⟩;obtain⟨m,hmm⟩:∃m,fs.length=m:=⟨_,rfl⟩;have HN:=hide hn;have HM:=hide hmm;unfold nd;rw[hn]at hl⊢;rw[hmm]at hm⊢;have Q0:=hide (show RQ w x A c n fs af 0 (w.alloc (.cells #[.int .i64 x.f0,.string x.f1,.int .i64 x.f2,.slice A n c] 24))from⟨aR w _,h.below (au (Below.refl _ _) _),fun i v hv=>bY _ (hc i v hv),au (Below.refl _ _) _,qo⟩);clear hT he h hc hn hmm;by_cases hne:n=m
 ·subst hne
  go_enter Tryz.func55,Tryz.ntmps55;go_wp2;go_loopg [15] (n+1) (fun gk v15 wr=>∃i:Nat,i≤n∧n-i<gk∧v15= .int .i64 i∧Aside0 (RQ w x A c n fs af i wr))
  case atStart=>exact⟨0,Nat.zero_le _,aG,rfl,Q0⟩
  case round=>
   obtain⟨i,hi,lS,rfl,Q⟩:=hrel;clear Q0;by_cases hlt:i<n
   ·refine WU ?_
    intro eY y hy;obtain⟨f,hf⟩:∃f,fs[i]?=some f:=⟨_,List.getElem?_eq_getElem (by rw[HM.out];exact hlt)⟩;obtain⟨ad,A',c',rfl,dR,k0,k1,k2,k3⟩:=Q.out.rd.kid hy;have cf:=Q.out.cells i f hf;have cb:=(aj Q.out.blk 3).trans rfl;have HTF:=hide (HT.out i f y hf hy);have hent:∀(args:Array Value) (w:World),(callFunc f.1.K args).run Tryz.prog w= .ok (.enter f.1.K args) w:=HE.out f (List.mem_of_getElem? hf);have HF:=hide hf;have HY:=hide hy;have kC:=hide dR;obtain⟨⟨K,cap⟩,P⟩:=f;clear hf hy dR;simp only[FV.val,FV.caps]at cf hent;have HTG:=hide (HTF.out:∀A c w',Below w.heap.size w w'→Rd w' y A c→Calls Tryz.prog K (#[nd y A c]++FV.caps ⟨K,cap⟩) w' (aH w' (P y)));clear HTF
    cases cap with
    |none=>
     simp only at cf;have Md:=hide (HTG.out:∀A c w',Below w.heap.size w w'→Rd w' y A c→Calls Tryz.prog K #[nd y A c] w' (aH w' (P y)));exact ac'
    |some a=>
     simp only at cf;have Md:=hide (HTG.out:∀A c w',Below w.heap.size w w'→Rd w' y A c→Calls Tryz.prog K #[nd y A c,.pointer a] w' (aH w' (P y)));exact ac'
   ·obtain rfl:i=n:=aG
    go_wp2;go_ret;exact⟨aI (by rw[Q.out.eq,List.drop_eq_nil_of_le (by rw[List.length_map,HM.out];exact Nat.le_refl _),List.drop_eq_nil_of_le Np];rfl),Q.out.below⟩
 ·have hni:((n:Int)==(m:Int))=false:=Oi
  have as1:((n:Int) != (m:Int))=true:=Oi;have as2:¬(n:Int)=(m:Int):=aG;go_enter Tryz.func55,Tryz.ntmps55;go_wp2;go_ret;exact⟨aI (uh (by rw[List.length_map,HM.out,HN.out];omega)).symm,Q0.out.below⟩
theorem FV.jA.below {f:FV}{y:Tr}{b:Bool}{w w':World}(h:f.jA y b w)(hb:Below w.heap.size w w'):f.jA y b w':=fun A c W hW hr=>h A c W (hb.trans (hW.mono hb.size)) hr
theorem Fy.below {K:Nat}{l:List Tr}{P:Tr→Bool}{w w':World}(h:Fy K l P w)(hb:Below w.heap.size w w'):Fy K l P w':=fun y hy A c W hW hr=>h y hy A c W (hb.trans (hW.mono hb.size)) hr
theorem Fz.below {K:Nat}{a:Option Addr}{l:List Tr}{P:Tr→Bool}{w w':World}(h:Fz K a l P w)(hb:Below w.heap.size w w'):Fz K a l P w':=fun y hy A c W hW hr=>h y hy A c W (hb.trans (hW.mono hb.size)) hr
theorem yG (x:Tr)(fs:List (FV×(Tr→Bool)))(t:TypeId)(hl:x.f3.length≤2513169434843)(hm:fs.length≤1000)(he:∀f,f∈fs→Enters Tryz.prog f.1.K)(A:Option Addr)(c:Nat)(w:World)(h:Rd w x A c)
  (hT:∀(i:Nat) f y,fs[i]?=some f→x.f3[i]?=some y→f.1.jA y (f.2 y) w):
  Calls Tryz.prog 55 #[nd x A c,.slice (some ⟨w.heap.size,0,none⟩) fs.length fs.length] (w.alloc (.cells (fs.map (fun f=>f.1.val)).toArray t)) fun e w'=>e= .returned (.bool (rO (fs.map Prod.snd) x.f3))∧Below w.heap.size w w':=by
 have hb:=au (Below.refl w.heap.size w) (.cells (fs.map (fun f=>f.1.val)).toArray t);refine(aaR x fs hl hm he A c ⟨w.heap.size,0,none⟩ _ (h.below hb) (fun i v hv=>?_) (fun i f y hf hy=>(hT i f y hf hy).below hb)).mono ?_
 ·rw[add_plain,aj (aR w _) i]
  simp[hv]
 ·rintro e w' ⟨rfl,h2⟩
  exact⟨rfl,hb.trans (h2.mono hb.size)⟩
section
variable {P:Program} {ops:Array Oper} {Q:Exit→Act→World→Prop} {md:Region.Mode} {S:World→Prop} {ds:List Nat}
def aik (md:Region.Mode)(ops:Array Oper)(l:Array Bool)(i:Nat):Bool:=Region.noSelect ops&&Region.free md ops l i&&(Region.ready md ops l).contains i
def takeC (md:Region.Mode)(ops:Array Oper)(ds:List Nat)(l:Array Bool)(i:Nat):Bool:=Region.noSelect ops&&Region.free md ops l i&&(Region.ready md ops l).contains i&&Region.Al md ops l&&Region.lastB md ops l ds i
theorem pv (i d:Nat){oi:Oper}{v:Value}{fuel:Nat}{l l':Array Bool}{a a':Act}{w:World}(h:bG P md ops Q S ds fuel l' a' w)(hl:l.setIfInBounds i true=l':=by(simp only[List.setIfInBounds_toArray,List.set_cons_zero,List.set_cons_succ];rfl))(hi:ops[i]?=some oi:=by exact rfl)(hN:oi.dst=some d:=by exact rfl)(hc:aik md ops l i=true:=by kernel_rfl)
  (hQ:∀c a w,Q (.panic c) (a.put oi.dst v) w→Q (.panic c) a w:=by first|exact fun _ _ _ h=>h|exact fun _ _ _ h=>nomatch h.1)
  (hy:Yields P ops oi v a:=by(refine Or.inl ⟨Nr,?_⟩;intro w';go_simp;with_reducible rfl))
  (ha:a.put (some d) v=a':=by(simp only[Act.put,List.setIfInBounds_toArray,List.set_cons_zero,List.set_cons_succ,fU,fV];rfl)):bG P md ops Q S ds (fuel+1) l a w:=
 acX (i:=i) l' hi hN (by unfold aaJ;rw[Bool.and_eq_true];exact⟨hc,by simp[hl]⟩) hQ hy ha h
theorem pu (i d:Nat){oi:Oper}{fuel:Nat}{l l':Array Bool}{a a':Act}{w:World}(h:bG P md ops Q S ds fuel l' a' w)(hl:l.setIfInBounds i true=l':=by(simp only[List.setIfInBounds_toArray,List.set_cons_zero,List.set_cons_succ];rfl))(hi:ops[i]?=some oi:=by exact rfl)(hN:oi.dst=some d:=by exact rfl)(hc:aik md ops l i=true:=by kernel_rfl)
  (hQ:∀c a w,Q (.panic c) (a.put oi.dst undef) w→Q (.panic c) a w:=by first|exact fun _ _ _ h=>h|exact fun _ _ _ h=>nomatch h.1)
  (hy:Yields P ops oi undef a:=by exact Or.inr ⟨Nr,rfl⟩)
  (ha:a.put (some d) undef=a':=by(simp only[Act.put,List.setIfInBounds_toArray,List.set_cons_zero,List.set_cons_succ,fU,fV];rfl)):bG P md ops Q S ds (fuel+1) l a w:=
 acX (i:=i) l' hi hN (by unfold aaJ;rw[Bool.and_eq_true];exact⟨hc,by simp[hl]⟩) hQ hy ha h
theorem tv (i d:Nat){oi:Oper}{v:Value}{fuel:Nat}{l l':Array Bool}{a a':Act}{w:World}(hS:S w)(h:bG P md ops Q S ds fuel l' a' w)(hl:l.setIfInBounds i true=l':=by(simp only[List.setIfInBounds_toArray,List.set_cons_zero,List.set_cons_succ];rfl))(hi:ops[i]?=some oi:=by exact rfl)(hN:oi.dst=some d:=by exact rfl)(hc:takeC md ops ds l i=true:=by kernel_rfl)
  (hQ:∀c a w,Q (.panic c) (a.put oi.dst v) w→Q (.panic c) a w:=by first|exact fun _ _ _ h=>h|exact fun _ _ _ h=>nomatch h.1)
  (hy:YieldsIf P ops S oi v a:=by(refine Or.inl ⟨Nr,?_⟩;(first|rintro w' ⟨s0,s1,s2,s3,s4,s5,s6,s7⟩|rintro w' ⟨s0,s1,s2,s3,s4,s5,s6⟩|rintro w' ⟨s0,s1,s2,s3,s4,s5⟩|rintro w' ⟨s0,s1,s2,s3,s4⟩|rintro w' ⟨s0,s1,s2,s3⟩|rintro w' ⟨s0,s1,s2⟩|rintro w' ⟨s0,s1⟩|intro w' s0);go_simp;with_reducible rfl))
  (ha:a.put (some d) v=a':=by(simp only[Act.put,List.setIfInBounds_toArray,List.set_cons_zero,List.set_cons_succ,fU,fV];rfl)):bG P md ops Q S ds (fuel+1) l a w:=
 tJ (i:=i) l' hi hN (by unfold takeB;rw[Bool.and_eq_true];exact⟨hc,by simp[hl]⟩) hQ hy hS ha h
end
end Go.Proofs.YtldgmneijipbjaaGreatDoor.H
