import Derived.Test.YtldgmneijipbjaaGreatDoorBS0
import Derived.RangeFuncNested
import Derived.RangeFuncBound
import Derived.Test.YtldgmneijipbjaaGreatDoorBMac
set_option linter.unusedVariables false
set_option linter.unusedSimpArgs false
set_option maxRecDepth 100000
set_option maxHeartbeats 16000000
namespace Go.Proofs.YtldgmneijipbjaaGreatDoor.H
open Go.RowKit
def uX {β:Type}(D:Nat)(J:β→World→Prop):Prop:=∀s A B,J s A→Below D A B→J s B
def pI (V:World→Prop):Prop:=∀A B:World,V A→A.heap.size≤B.heap.size→(∀(k:Nat) (o:Obj),A.heap[k]?=some o→o.isCells=true→B.heap[k]?=some o)→V B
theorem pI.below {V:World→Prop}(hV:pI V){A B:World}(h:V A)(hb:Below A.heap.size A B):V B:=hV A B h hb.size (fun k o ho _=>(hb.block k (Array.getElem?_eq_some_iff.1 ho).1).trans ho)
theorem pI.putObj {V:World→Prop}(hV:pI V){A:World}(h:V A){l:Nat}{o o':Obj}(hl:A.heap[l]?=some o)(hn:o.isCells=false):V (A.putObj l o'):=
 hV A _ h qo (fun k o2 h2 hc=>by
  by_cases e:k=l
  ·subst e
   rw[hl]at h2
   cases h2
   rw[hn]at hc
   cases hc
  ·rw[World.putObj_heap_other e];exact h2)
theorem iK {D:Nat}{A:World}{l:Nat}(h:D≤l)(o:Obj):Below D A (A.putObj l o):=⟨rfl,rfl,rfl,qo,fun k hk=>World.putObj_heap_other aG⟩
def Hands {α:Type}(F:Fence)(n:Nat)(P:Program)(gf:Nat)(lb:Array Value)(encs:α→Array Value)(V:List α→α→World→Prop)(X:α→Nat→Prop)(S Sp:List α→Prop)(N:Nat)(w:World):Prop:=
 ∀(l:Nat) (J Jx:List α→World→Prop) (W:World),Below w.heap.size w W→uX W.heap.size J→uX W.heap.size Jx→
  (∀pre x W1,J pre W1→W.heap.size≤W1.heap.size→V pre x W1→pre.length<N→YieldAt F (n-1) P l (encs x) W1 fun e W'=>
   (e= .returned (.bool true)∧J (pre++[x]) W'∧Fr (X x) W1 W')∨(e= .returned (.bool false)∧Jx (pre++[x]) W'))→
  J [] W→
  CallsIn F n P gf (#[.func (.yield l) #[] #[]]++lb) W fun e W'=>(∃v,e= .returned v)∧((∃xs,S xs∧J xs W')∨(∃pre,Sp pre∧Jx pre W'))
def M7 {α:Type}(X:α→Nat→Prop)(I:List α→World→Prop)(Ix:Code→List α→World→Prop)(pre:List α)(x:α)(W:World):Exit→Act→World→Prop
 | .normal,_,W'=>Fr (X x) W W'∧I (pre++[x]) W'
 | .exit id,_,W'=>Fr (X x) W W'∧Ix (.exit id) (pre++[x]) W'
 | .ret,_,W'=>Fr (X x) W W'∧Ix .ret (pre++[x]) W'
 |_,_,_=>False
section
variable {α:Type} {F:Fence} {n:Nat} {P:Program}
theorem Vd {l:Nat}{rec:LoopState→Option Code→Loop}{fn:FuncId}{ps:Array Tmp}{tmps:Array Value}{assign body:Code}{d:Nat}
  (hrec:rec=fun st pe=>{state:=st,pending:=pe,fn,tmps,params:=ps,assign,body,defers:=d})(hfn:F.fn fn)
  {X:α→Nat→Prop}{I:List α→World→Prop}{Ix:Code→List α→World→Prop}{D:Nat}(hI:uX D I)(hIx:∀id,uX D (Ix id))(hDl:D≤l)
  {V:World→Prop}(hV:pI V){Ax:Act→World→Prop}(hAx:∀a',pI (Ax a')){args:Array Value}(hs:args.size=ps.size){pre:List α}{x:α}{W:World}(hl:W.heap[l]?=some (.loop (rec .ready none)))(hi:I pre W)(hv:V W)
  (hX:∀W',V W'→(∃r,W'.heap[l]?=some (.loop r))→¬X x l)
  (hassign:∀K:Act→World→Prop,(∀a' W',Below W.heap.size W W'→Ax a' W'→K a' W')→
   assign.wpIn (F.inRound l) n P (Exit.then K (fun _ _ _=>False)) {tmps:=(ps.zip args).foldl (fun t (p,v)=>t.setIfInBounds p v) tmps,defers:=[]} W)
  (hbody:∀a' W1,W.heap.size≤W1.heap.size→(∃r,W1.heap[l]?=some (.loop r))→I pre W1→V W1→Ax a' W1→body.wpIn (F.inRound l) n P (M7 X I Ix pre x W1) a' W1):
  YieldAt F n P l args W fun e W'=>
   (e= .returned (.bool true)∧I (pre++[x]) W'∧Fr (X x) W W'∧W'.heap[l]?=some (.loop (rec .ready none)))∨
   (e= .returned (.bool false)∧∃c:Code,Ix c (pre++[x]) W'∧Fr (fun k=>X x k∨k=l) W W'∧W'.heap[l]?=some (.loop (rec .done (some c)))):=by
 have hy:=run_yield (P:=P) (args:=args) hl (by rw[hrec];exact hs);rw[hrec]at hy;refine⟨fn,_,assign,body,hy,roundIn_of_wpIn hfn (hassign _ ?_)⟩;intro a' W1 hb1 hax;have hl1:W1.heap[l]?=some (.loop (rec .ready none)):=(hb1.block l (Array.getElem?_eq_some_iff.1 hl).1).trans hl;have hlt:=(Array.getElem?_eq_some_iff.1 hl).1;have hlt1:=(Array.getElem?_eq_some_iff.1 hl1).1;have hi1:I pre W1:=hI _ _ _ hi (hb1.mono aG);have hv1:V W1:=hV.below hv hb1;refine⟨_,run_beginRound hl1 (by rw[hrec]),?_⟩;obtain⟨busy,ado⟩:∃busy,({rec .ready none with state:= .busy}:Loop)=busy:=⟨_,rfl⟩;rw[ado];have hl2:(W1.putObj l (.loop busy)).heap[l]?=some (.loop busy):=World.putObj_heap_same hlt1;have hv2:V (W1.putObj l (.loop busy)):=hV.putObj hv1 hl1 rfl;refine wpIn_mono (hbody a' (W1.putObj l (.loop busy)) (by have:=hb1.size;simpa using this) ⟨_,hl2⟩ (hI _ _ _ hi1 (iK hDl _)) hv2 ((hAx a').putObj hax hl1 rfl)) ?_;have hnX:¬X x l:=hX _ hv2 ⟨_,hl2⟩
 have fin:∀(jump:Option Code) (W3:World),Fr (X x) (W1.putObj l (.loop busy)) W3→
   ∃W4,(Instr.endRound l jump).run P W3= .ok (.bool jump.isNone) W4∧W4=W3.putObj l (.loop (rec (if jump.isNone then .ready else .done) jump))∧l<W3.heap.size:=fun jump W3 hF=>by
  have hl3:=(hF.block l (Array.getElem?_eq_some_iff.1 hl2).1 hnX).trans hl2;have hr:=run_endRound (P:=P) jump hl3;refine⟨_,hr,?_,(Array.getElem?_eq_some_iff.1 hl3).1⟩;rw[←ado,hrec]
 have hfr:∀(W3:World) (o:Obj),Fr (X x) (W1.putObj l (.loop busy)) W3→Fr (fun k=>X x k∨k=l) W (W3.putObj l o):=fun W3 o hF=>by
  refine⟨hF.os.trans hb1.os,hF.tape.trans hb1.tape,hF.output.trans hb1.output,?_,fun k hk hn=>?_⟩
  ·have:=hF.size
   have:=hb1.size;simp at*;omega
  ·have hkl:k≠l:=fun e=>hn (.inr e)
   rw[World.putObj_heap_other hkl,hF.block k (by have:=hb1.size;simp;omega) (fun e=>hn (.inl e)),World.putObj_heap_other hkl];exact hb1.block k hk
 rintro e a3 W3 hp
 cases e with
 |normal=>
  obtain⟨hF,hi3⟩:=hp;obtain⟨W4,hr,rfl,hlt3⟩:=fin none W3 hF;refine⟨_,_,hr,.inl ⟨rfl,hI _ _ _ hi3 (iK hDl _),?_,World.putObj_heap_same hlt3⟩⟩;have hq:=hfr W3 (.loop (rec .ready none)) hF;refine⟨hq.os,hq.tape,hq.output,hq.size,fun k hk hn=>?_⟩;by_cases e:k=l
  ·subst e
   exact(World.putObj_heap_same hlt3).trans hl.symm
  ·exact hq.block k hk (fun q=>q.elim hn e)
 |exit id=>
  obtain⟨hF,hi3⟩:=hp;obtain⟨W4,hr,rfl,hlt3⟩:=fin (some (.exit id)) W3 hF;exact⟨_,_,hr,.inr ⟨rfl,.exit id,hIx _ _ _ _ hi3 (iK hDl _),hfr W3 _ hF,World.putObj_heap_same hlt3⟩⟩
 |ret=>
  obtain⟨hF,hi3⟩:=hp;obtain⟨W4,hr,rfl,hlt3⟩:=fin (some .ret) W3 hF;exact⟨_,_,hr,.inr ⟨rfl,.ret,hIx _ _ _ _ hi3 (iK hDl _),hfr W3 _ hF,World.putObj_heap_same hlt3⟩⟩
 |goto t=>exact hp.elim
 |panic ch=>exact hp.elim
 |outgrown=>exact hp.elim
end
section
variable {α:Type} {F:Fence} {n:Nat} {P:Program}
theorem RO {g:Operand}{ps:Array Tmp}{assign body:Code}{Q:Exit→Act→World→Prop}{a:Act}{w w0:World}
  (hro:F.round=none)(h1:1≤n){gf:Nat}{lb:Array Value}(hg:a.eval g= .func (.func gf) #[] lb)(hFg:F.fn gf)(eg:∀args w,(callFunc gf args).run P w= .ok (.enter gf args) w)
  {encs:α→Array Value}{V:List α→α→World→Prop}{X:α→Nat→Prop}{S Sp:List α→Prop}{N:Nat}(hseq:Hands F (n-1) P gf lb encs V X S Sp N w0)(hb0:Below w0.heap.size w0 w)(hps:∀x,(encs x).size=ps.size)
  (I:List α→World→Prop)(Ix:Code→List α→World→Prop)(hI:uX w.heap.size I)(hIx:∀id,uX w.heap.size (Ix id))(h0:I [] w)
  (Ax:List α→α→Act→World→Prop)(hAx:∀pre x a',pI (Ax pre x a'))(hV:∀pre x,pI (V pre x))
  (hX:∀pre x W l,V pre x W→w.heap.size≤l→(∃o,W.heap[l]?=some o∧o.isCells=false)→¬X x l)
  (hassign:∀(l:Nat) (pre:List α) (x:α) (W:World) (K:Act→World→Prop),w.heap.size≤W.heap.size→I pre W→V pre x W→(∀a' W',Below W.heap.size W W'→Ax pre x a' W'→K a' W')→
   assign.wpIn (F.inRound l) (n-1-1) P (Exit.then K (fun _ _ _=>False)) {tmps:=(ps.zip (encs x)).foldl (fun t (p,v)=>t.setIfInBounds p v) a.tmps,defers:=[]} W)
  (hbody:∀(l:Nat) (pre:List α) (x:α) (a':Act) (W:World),w.heap.size≤l→w.heap.size≤W.heap.size→(∃r,W.heap[l]?=some (.loop r))→I pre W→V pre x W→Ax pre x a' W→pre.length<N→body.wpIn (F.inRound l) (n-1-1) P (M7 X I Ix pre x W) a' W)
  (hdone:∀(D:Nat) (xs:List α) (W:World),w.heap.size≤D→S xs→I xs W→W.heap[D]?=some (.deferred (some []))→Q .normal {a with defers:={target:= .collected D,args:=#[]}::a.defers} W)
  (hstop:∀(D:Nat) (id:Code) (pre:List α) (W:World),w.heap.size≤D→Sp pre→Ix id pre W→W.heap[D]?=some (.deferred (some []))→id.wpIn F n P Q {a with defers:={target:= .collected D,args:=#[]}::a.defers} W):
  (Code.rangeFunc g ps assign body).wpIn F n P Q a w:=by
 refine wpIn_rangeFunc fun fn hfn=>?_;rw[hro];obtain⟨rec,hrec⟩:∃rec:LoopState→Option Code→Loop,rec=fun st pe=>{state:=st,pending:=pe,fn,tmps:=a.tmps,params:=ps,assign,body,defers:=w.heap.size}:=⟨_,rfl⟩;obtain⟨W1,hW1⟩:∃W1,(w.alloc (.deferred (some []))).alloc (.loop (rec .ready none))=W1:=⟨_,rfl⟩;have hs1:W1.heap.size=w.heap.size+2:=by rw[←hW1];simp
 have hL:W1.heap[w.heap.size+1]?=some (.loop (rec .ready none)):=by
  rw[←hW1];have:=World.alloc_heap_new (w.alloc (.deferred (some []))) (.loop (rec .ready none));rwa[World.size_alloc]at this
 have hK:W1.heap[w.heap.size]?=some (.deferred (some [])):=by
  rw[←hW1];exact(Below.heap_alloc _ _ _ qo).trans (World.alloc_heap_new w _)
 have hbw:Below w.heap.size w W1:=by rw[←hW1];exact((Below.refl _ w).alloc (Nat.le_refl _) _).alloc qo _
 refine⟨w.heap.size+1,[{target:= .collected w.heap.size,args:=#[]}],W1,{target:= .fn (.func gf) lb,args:=#[.func (.yield (w.heap.size+1)) #[] #[]]},W1,gf,
  #[.func (.yield (w.heap.size+1)) #[] #[]]++lb,W1,?_,?_,?_,?_,fun _=>h1,?_⟩
 ·rw[←hW1,hrec];exact run_enterLoop_outer _ _ _ _ _
 ·simp only[resolve,hg]
  simp[go_sem]
 ·intro f' hf';simp[Target.leads]at hf';subst hf';exact hFg
 ·simp[invoke,go_sem,eg]
 ·refine(hseq (w.heap.size+1)
   (fun pre W=>I pre W∧W.heap[w.heap.size+1]?=some (.loop (rec .ready none))∧W.heap[w.heap.size]?=some (.deferred (some [])))
   (fun pre W=>∃id,Ix id pre W∧W.heap[w.heap.size+1]?=some (.loop (rec .done (some id)))∧W.heap[w.heap.size]?=some (.deferred (some [])))
   W1 (hb0.trans (hbw.mono hb0.size)) ?_ ?_ ?_ ⟨hI _ _ _ h0 hbw,hL,hK⟩).mono ?_
  ·rintro s A B ⟨q1,q2,q3⟩ hb
   rw[hs1]at hb;exact⟨hI _ _ _ q1 (hb.mono aG),(hb.block _ aG).trans q2,(hb.block _ aG).trans q3⟩
  ·rintro s A B ⟨id,q1,q2,q3⟩ hb
   rw[hs1]at hb;exact⟨id,hIx _ _ _ _ q1 (hb.mono aG),(hb.block _ aG).trans q2,(hb.block _ aG).trans q3⟩
  ·rintro pre x W ⟨q1,q2,q3⟩ hsz hv hlen
   have hdef:∀W',V pre x W'→W'.heap[w.heap.size]?=some (.deferred (some []))→¬X x w.heap.size:=fun W' h1 h2=>hX pre x W' _ h1 (Nat.le_refl _) ⟨_,h2,rfl⟩
   refine(Vd hrec hfn hI hIx aG (hV pre x) (hAx pre x) (hps x) q2 q1 hv (fun W' h1 ⟨r,h2⟩=>hX pre x W' _ h1 aG ⟨_,h2,rfl⟩)
    (fun K hK=>hassign _ pre x W K aG q1 hv hK) (fun a' Wb hle hr hi hvv hax=>hbody _ pre x a' Wb aG aG hr hi hvv hax hlen)).mono ?_
   rintro e W' (⟨rfl,r1,r2,r3⟩|⟨rfl,id,r1,r2,r3⟩)
   ·exact .inl ⟨rfl,⟨r1,r3,(r2.block _ (Array.getElem?_eq_some_iff.1 q3).1 (hdef W hv q3)).trans q3⟩,r2⟩
   ·exact .inr ⟨rfl,id,r1,r3,(r2.block _ (Array.getElem?_eq_some_iff.1 q3).1 (fun q=>q.elim (hdef W hv q3) (fun e=>aG))).trans q3⟩
  ·rintro e W2 ⟨⟨v,rfl⟩,(⟨xs,hS,q1,q2,q3⟩|⟨pre,hSp,id,q1,q2,q3⟩)⟩
   ·exact⟨none,_,y8,hdone _ xs _ (Nat.le_refl _) hS (hI _ _ _ q1 (iK aG _)) ((World.putObj_heap_other aG).trans q3)⟩
   ·exact⟨some id,_,y8,hstop _ id pre _ (Nat.le_refl _) hSp (hIx _ _ _ _ q1 (iK aG _)) ((World.putObj_heap_other aG).trans q3)⟩
end
end Go.Proofs.YtldgmneijipbjaaGreatDoor.H
