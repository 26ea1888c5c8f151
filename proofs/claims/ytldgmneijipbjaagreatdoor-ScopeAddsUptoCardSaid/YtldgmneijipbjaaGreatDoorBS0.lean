import Derived.Shelf.Unicode.ValidAny
import Derived.Ground.NamesProg
import Derived.Test.YtldgmneijipbjaaGreatDoorProg
import Derived.Test.YtldgmneijipbjaaGreatDoorBW
import Derived.KernelRfl
import Derived.Laws.Strings
import Derived.Test.YtldgmneijipbjaaGreatDoorBPA
import Derived.Test.YtldgmneijipbjaaGreatDoorBMac
set_option linter.unusedVariables false
set_option linter.unusedSimpArgs false
set_option maxRecDepth 100000
set_option maxHeartbeats 16000000
open Go.Proofs.YtldgmneijipbjaaGreatDoor.H
section
namespace Go.Proofs
open Go.Shelf
def Tryz.laysValid_ren:Go.Shelf.Ren:=⟨fun|196=>121|259=>124|n=>n,fun|9=>9|4=>4|3=>3|5=>5|12=>12|119=>108|0=>0|46=>112|139=>111|138=>110|53=>113|n=>n,fun|3=>0|4=>1|n=>n⟩
theorem Tryz.laysValid:Go.Proofs.Lays.n196 Tryz.prog Tryz.laysValid_ren:={
 mixed:=dL
 f196:=Tryz.func121.trans (congrArg some dL)
 f259:=Tryz.func124.trans (congrArg some dL)
 t0:=Tryz.underlying0
 a0:=Tryz.isAgg0
 z0:=Tryz.sizeOf0
 v0:=Tryz.zeroValue0
 t3:=Tryz.underlying3
 a3:=Tryz.isAgg3
 z3:=Tryz.sizeOf3
 v3:=Tryz.zeroValue3
 t4:=Tryz.underlying4
 a4:=Tryz.isAgg4
 z4:=Tryz.sizeOf4
 v4:=Tryz.zeroValue4
 t5:=Tryz.underlying5
 a5:=Tryz.isAgg5
 z5:=Tryz.sizeOf5
 v5:=Tryz.zeroValue5
 t9:=Tryz.underlying9
 a9:=Tryz.isAgg9
 z9:=Tryz.sizeOf9
 v9:=Tryz.zeroValue9
 t12:=Tryz.underlying12
 a12:=Tryz.isAgg12
 z12:=Tryz.sizeOf12
 v12:=Tryz.zeroValue12
 t46:=Tryz.underlying112
 a46:=Tryz.isAgg112
 z46:=Tryz.sizeOf112
 v46:=Tryz.zeroValue112
 t53:=Tryz.underlying113
 a53:=Tryz.isAgg113
 z53:=Tryz.sizeOf113
 v53:=Tryz.zeroValue113
 t119:=Tryz.underlying108
 a119:=Tryz.isAgg108
 z119:=Tryz.sizeOf108
 t138:=Tryz.underlying110
 a138:=Tryz.isAgg110
 z138:=Tryz.sizeOf110
 v138:=Tryz.zeroValue110
 t139:=Tryz.underlying111
 a139:=Tryz.isAgg111
 z139:=Tryz.sizeOf111
 v139:=Tryz.zeroValue111
 g3:=dL
 g4:=by kernel_rfl}
end Go.Proofs
end
section
namespace Go.Proofs.YtldgmneijipbjaaGreatDoor.H
open Go.RowKit Go.Proofs.YtldgmneijipbjaaGreatDoorW.PrintWords Go.Proofs.YtldgmneijipbjaaGreatDoorW.PrintLast Go.Proofs.YtldgmneijipbjaaGreatDoorW.PrintMore
structure Fr (S:Nat→Prop)(w w':World):Prop where
 os:w'.os=w.os
 tape:w'.tape=w.tape
 output:w'.output=w.output
 size:w.heap.size≤w'.heap.size
 block:∀k,k<w.heap.size→¬S k→w'.heap[k]?=w.heap[k]?
section
variable {S S':Nat→Prop} {a b c w w':World}
theorem Fr.refl (S:Nat→Prop)(w:World):Fr S w w:=⟨rfl,rfl,rfl,Nat.le_refl _,fun _ _ _=>rfl⟩
theorem Fr.trans (h:Fr S a b)(k:Fr S' b c)(hs:∀i,S' i→S i∨a.heap.size≤i):Fr S a c:=
 ⟨k.os.trans h.os,k.tape.trans h.tape,k.output.trans h.output,Nat.le_trans h.size k.size,fun i hi hn=>
  (k.block i (Nat.lt_of_lt_of_le hi h.size) (fun hk=>by rcases hs i hk with q|q;exact hn q;omega)).trans (h.block i hi hn)⟩
theorem Fr.mono (h:Fr S a b)(hs:∀k,S k→S' k):Fr S' a b:=⟨h.os,h.tape,h.output,h.size,fun k hk hn=>h.block k hk (fun q=>hn (hs k q))⟩
theorem Fr.drew (h:Fr S a b):Fr S a b.drew:=⟨h.os,h.tape,h.output,h.size,h.block⟩
theorem Fr.drewN (h:Fr S a b)(n:Nat):Fr S a (b.drewN n):=⟨h.os,h.tape,h.output,h.size,h.block⟩
theorem Fr.of_below (h:Below a.heap.size a b):Fr S a b:=⟨h.os,h.tape,h.output,h.size,fun k hk _=>h.block k hk⟩
theorem Fr.below (h:Fr S a b){B:Nat}(hB:B≤a.heap.size)(hs:∀k,S k→B≤k):Below B a b:=⟨h.os,h.tape,h.output,h.size,fun k hk=>h.block k aG (fun q=>by have:=hs k q;omega)⟩
theorem Fr.more (h:Fr S a b)(k:Below b.heap.size b c):Fr S a c:=h.trans (Fr.of_below (S:=fun _=>False) k) (fun _ q=>q.elim)
theorem Fr.alloc (h:Fr S a b)(o:Obj):Fr S a (b.alloc o):=h.more (au (Below.refl _ _) o)
theorem Fr.grown {row:Option Nat}(h:Fr S a b)(hg:b.grownBy c row)(hr:∀k,row=some k→S k∨a.heap.size≤k):Fr S a c:=
 h.trans (S':=fun k=>row=some k) ⟨hg.os,hg.tape,hg.output,hg.size,fun k hk hn=>hg.block k hk (fun e=>hn e.symm)⟩ (fun i e=>hr i e)
theorem Fr.setCell (h:Fr S a b){p:Addr}(hp:S p.block∨a.heap.size≤p.block)(u:Value):Fr S a (b.setCell p u):=
 h.trans (S':=fun k=>k=p.block) ⟨rfl,rfl,rfl,by simp[World.setCell],fun k _ hn=>Below.heap_setCell b p u k hn⟩ (fun i e=>by rw[e];exact hp)
theorem Fr.kept (h:Fr S a b):Kept a b S:=⟨h.size,h.block⟩
theorem Fr.blk (h:Fr S a b){g:Nat}{o:Obj}(hb:a.heap[g]?=some o)(hn:¬S g):b.heap[g]?=some o:=Ud hb h.kept hn
end
theorem Ug {α:Type}{d:Kd α}{e base:Nat}{ok S:Nat→Prop}{v:Value}{xs:List α}{w w':World}(h:d.R e w base ok v xs)(hk:Fr S w w')(hn:∀k,ok k→¬S k):d.R e w' base ok v xs:=Kd.aeQ h hk.kept hn
theorem hide {p:Prop}(h:p):Aside0 p:=Aside0.mk h
theorem kL {α:Type}{d:Kd α}{w w1:World}{A:Option Addr}{n:Nat}{xs:List α}(h:d.C w A n xs)(hb:Below w.heap.size w w1):d.C w1 A n xs:=Kd.rC h hb
theorem R_C {α:Type}{d:Kd α}{e base n c:Nat}{ok:Nat→Prop}{w:World}{A:Option Addr}{xs:List α}(h:d.R e w base ok (.slice A n c) xs):n=xs.length∧n≤c∧d.C w A n xs:=by
 obtain⟨A',c',e1,h1,hC⟩:=Kd.bL h;injection e1 with e1 e2 e3
 subst e1 e2 e3;exact⟨rfl,h1,hC⟩
theorem kZ {α:Type}{d:Kd α}{w:World}{A:Option Addr}{n:Nat}{xs:List α}(h:d.C w A n xs)(hn:0<n):∃ad,A=some ad:=by
 obtain⟨ad,e,_⟩:=h.2.2 hn;exact⟨ad,e⟩
theorem bY {w:World}{p:Addr}{v:Value}(o:Obj)(h:w.cell? p=some v):(w.alloc o).cell? p=some v:=ak (au (Below.refl w.heap.size w) o) h
theorem aI {a b:Bool}(h:a=b):Ending.returned (.bool a)=Ending.returned (.bool b):=by rw[h]
theorem add_zero' (ad:Addr):ad.add 0=ad:=by simp[Addr.add]
open PScopeOwn
abbrev Tr:=jh
abbrev KT:Kd Tr:=k24
def nd (x:Tr)(A:Option Addr)(c:Nat):Value:= .agg #[.int .i64 x.f0,.string x.f1,.int .i64 x.f2,.slice A x.f3.length c]
abbrev Ao (x:Tr)(A:Option Addr)(c:Nat):List Value:=[.int .i64 x.f0,.string x.f1,.int .i64 x.f2,.slice A x.f3.length c]
def jU (w:World):Prop:=Lib.Utf8Tabs 0 1 w
theorem jU.below {w w':World}(h:jU w)(hb:Below w.heap.size w w'):jU w':=
 ⟨fun c hc=>ak hb (h.1 c hc),fun i hi=>⟨ak hb (h.2 i hi).1,ak hb (h.2 i hi).2⟩⟩
structure Rd (w:World)(x:Tr)(A:Option Addr)(c:Nat):Prop where
 kids:Kd.C KT w A x.f3.length x.f3
 cap:x.f3.length≤c
 tab:jU w
theorem Rd.below {w w':World}{x:Tr}{A:Option Addr}{c:Nat}(h:Rd w x A c)(hb:Below w.heap.size w w'):Rd w' x A c:=⟨kL h.kids hb,h.cap,h.tab.below hb⟩
theorem Rd.nil {w:World}{x:Tr}(t:jU w)(h:x.f3=[]):Rd w x none 0:=⟨by rw[h];exact⟨rfl,qo,fun h=>by simp at h⟩,by rw[h];simp,t⟩
inductive Fit:Tr→Prop
 |mk (x:Tr):x.f3.length≤1099511627776→x.f1.size≤1099511627776→(∀y,y∈x.f3→Fit y)→Fit x
theorem Fit.str {x:Tr}(h:Fit x):x.f1.size≤1099511627776:=by cases h;assumption
theorem Fit.len2 {x:Tr}(h:Fit x):x.f3.length≤1099511627776:=by cases h;assumption
theorem Fit.len {x:Tr}(h:Fit x):x.f3.length≤2513169434843:=by have:=h.len2;omega
theorem Fit.kid {x y:Tr}(h:Fit x)(hy:y∈x.f3):Fit y:=by cases h with|mk _ _ _ h2=>exact h2 y hy
theorem fJ {x y:Tr}(hy:y∈x.f3):SizeOf.sizeOf y<SizeOf.sizeOf x:=by
 obtain⟨a,b,c,l⟩:=x;have:=List.sizeOf_lt_of_mem hy;simp only[jh.mk.sizeOf_spec];simp only at this;omega
theorem bZ {x:Tr}{i:Nat}{y:Tr}(h:x.f3[i]?=some y):y∈x.f3:=List.mem_of_getElem? h
theorem Rd.kid {w:World}{x:Tr}{A:Option Addr}{c:Nat}(h:Rd w x A c){i:Nat}{y:Tr}(hy:x.f3[i]?=some y):
  ∃ad A' c',A=some ad∧Rd w y A' c'∧w.cell? (ad.add (i*4))=some (.int .i64 y.f0)∧w.cell? ⟨(ad.add (i*4)).block,(ad.add (i*4)).off+1,none⟩=some (.string y.f1)∧w.cell? ⟨(ad.add (i*4)).block,(ad.add (i*4)).off+2,none⟩=some (.int .i64 y.f2)∧w.cell? ⟨(ad.add (i*4)).block,(ad.add (i*4)).off+3,none⟩=some (.slice A' y.f3.length c'):=by
 have hi:i<x.f3.length:=(List.getElem?_eq_some_iff.1 hy).1;obtain⟨ad,A',c',e,h0,h1,h2,h3,h4,h5⟩:=MJ h.kids (i:Int) aG aG;have er:dB x.f3 (i:Int)=y:=by unfold dB;rw[Int.toNat_natCast,List.getD_eq_getElem?_getD,hy];rfl
 rw[Int.toNat_natCast]at h0 h1 h2 h3;rw[er]at h0 h1 h2 h3 h4 h5;exact⟨ad,A',c',e,⟨h5,h4,h.tab⟩,h0,h1,h2,h3⟩
def aH (w:World)(b:Bool)(e:Ending)(w':World):Prop:=e= .returned (.bool b)∧Below w.heap.size w w'
theorem jO {w:World}{l:List Tr}{A:Option Addr}(h:Kd.C KT w A l.length l)(t:jU w){i:Nat}{y:Tr}(hy:l[i]?=some y):
  ∃ad A' c',A=some ad∧Rd w y A' c'∧w.cell? (ad.add (i*4))=some (.int .i64 y.f0)∧w.cell? ⟨(ad.add (i*4)).block,(ad.add (i*4)).off+1,none⟩=some (.string y.f1)∧w.cell? ⟨(ad.add (i*4)).block,(ad.add (i*4)).off+2,none⟩=some (.int .i64 y.f2)∧w.cell? ⟨(ad.add (i*4)).block,(ad.add (i*4)).off+3,none⟩=some (.slice A' y.f3.length c'):=
 Rd.kid (x:=⟨0,⟨#[]⟩,0,l⟩) (c:=l.length) ⟨h,Nat.le_refl _,t⟩ hy
theorem wrap_small {j:Int}(h0:0≤j)(h:j≤9223372036854775806):wrap64 (j+1)=j+1:=zy
theorem j_ {α:Type}{g:Nat→Option α}{a b:α}(h:Ev g a)(e:a=b):Ev g b:=e▸h
theorem acY {l:List Tr}{i:Nat}{y:Tr}(h:l[i]?=some y):dB l (i:Int)=y:=by unfold dB;rw[Int.toNat_natCast,List.getD_eq_getElem?_getD,h];rfl
theorem drop_at {α:Type}{l:List α}{i:Nat}{y:α}(h:l[i]?=some y):l.drop i=y::l.drop (i+1):=by
 have hi:=(List.getElem?_eq_some_iff.1 h).1;rw[List.drop_eq_getElem_cons hi,(List.getElem?_eq_some_iff.1 h).2]
theorem str_eq {a b:ByteArray}:a.toList=b.toList↔a=b:=by
 rw[ByteArray.toList_eq,ByteArray.toList_eq];exact⟨fun h=>WideShapes.bytes_inj h,fun h=>by rw[h]⟩
theorem eO {α:Type}{l:List α}{i:Nat}(h:i<l.length):∃y,l[i]?=some y:=⟨_,List.getElem?_eq_getElem h⟩
theorem ji {w w2:World}{a b c d:Value}{t:TypeId}(h:Below (w.alloc (.cells #[a,b,c,d] t)).heap.size (w.alloc (.cells #[a,b,c,d] t)) w2):
  w2.cell? ⟨w.heap.size,0,none⟩=some a∧w2.cell? ⟨w.heap.size,1,none⟩=some b∧w2.cell? ⟨w.heap.size,2,none⟩=some c∧w2.cell? ⟨w.heap.size,3,none⟩=some d∧Below w.heap.size w w2:=
 ⟨ak h (aj (aR w _) 0),ak h (aj (aR w _) 1),ak h (aj (aR w _) 2),ak h (aj (aR w _) 3),(au (Below.refl w.heap.size w) _).trans (h.mono qo)⟩
end Go.Proofs.YtldgmneijipbjaaGreatDoor.H
end
