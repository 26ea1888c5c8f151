import Derived.Test.YtldgmneijipbjaaGreatDoorBS0
import Derived.Maps.OwnSet
import Derived.Test.YtldgmneijipbjaaGreatDoorBMac
set_option linter.unusedVariables false
set_option linter.unusedSimpArgs false
set_option maxRecDepth 100000
set_option maxHeartbeats 16000000
namespace Go.Proofs.YtldgmneijipbjaaGreatDoor.H
open Go.RowKit Go.Maps Go.WideMaps Go.Proofs.YtldgmneijipbjaaGreatDoorW.PrintWords Go.Proofs.YtldgmneijipbjaaGreatDoorW.PrintLast Go.Proofs.YtldgmneijipbjaaGreatDoorW.PrintMore
open PScopeOwn
def zM (v:Value):Option (DataW Value×List MemPlace):=some (.held v,[])
abbrev Uh:Keyed Tryz.prog 9:=string_keyed Tryz.underlying9
abbrev sk (s:ByteArray):Lit:= .string s.data.toList
theorem acZ {s t:ByteArray}(h:s≠t):sk s≠sk t:=fun e=>h (by injection e with e;exact WideShapes.bytes_inj e)
theorem Ui (s:ByteArray):WideAt.IsKeyLit (sk s):=trivial
def dY (w:World)(b n:Nat)(f:ByteArray→Option Value)(c:Nat):Prop:=∃D,w.ownsMap Tryz.prog 9 zM b n D∧(∀s,has D (sk s)=(f s).isSome)∧(∀s zd,D.atKey (sk s) zd=((f s).map DataW.held).getD zd)∧size D=c
section
variable {w w':World} {b n c:Nat} {f:ByteArray→Option Value}
theorem dY.made (w:World):dY (w.alloc (.map #[] 0)) w.heap.size 0 (fun _=>none) 0:=⟨_,World.ownsMap_made _ _ _ _,fun s=>rfl,fun s zd=>rfl,rfl⟩
theorem dY.lt (h:dY w b n f c):b<w.heap.size:=by obtain⟨D,h,-⟩:=h;exact h.lt
theorem dY.blk (h:dY w b n f c):∃es k,w.heap[b]?=some (.map es k):=by obtain⟨D,⟨es,k,h,-⟩,-⟩:=h;exact⟨es,k,h⟩
theorem dY.same (h:dY w b n f c)(hb:w'.heap[b]?=w.heap[b]?):dY w' b n f c:=by
 obtain⟨D,⟨es,k,h1,h2⟩,h3⟩:=h;exact⟨D,⟨es,k,hb.trans h1,h2⟩,h3⟩
theorem dY.below (h:dY w b n f c){B:Nat}(hb:Below B w w')(hB:b<B):dY w' b n f c:=h.same (hb.block b hB)
theorem dY.put (h:dY w b n f c){D:DataW Value}(s:ByteArray)(v:Value)(h1:w.ownsMap Tryz.prog 9 zM b n D)(h2:∀s,has D (sk s)=(f s).isSome)(h3:∀s zd,D.atKey (sk s) zd=((f s).map DataW.held).getD zd)(h4:size D=c)
  (hw:w'.ownsMap Tryz.prog 9 zM b (n+1) (D.put (sk s) (.held v))):dY w' b (n+1) (fun t=>if t=s then some v else f t) (if(f s).isSome then c else c+1):=by
 refine⟨_,hw,fun t=>?_,fun t zd=>?_,?_⟩
 ·by_cases e:t=s
  ·subst e;rw[has_put_same h1.isMap (Ui _)];simp
  ·rw[has_put_other (acZ e),h2];simp[e]
 ·by_cases e:t=s
  ·subst e;rw[atKey_put_same h1.isMap (Ui _)];simp
  ·rw[atKey_put_other (acZ e),h3];simp[e]
 ·rw[size_put (h1.tidy Uh),h2,h4]
end
section
variable (w:World) {ops:Array Oper} {rest:List Oper} {o:Oper} {a:Act} {Q:Exit→Act→World→Prop}
theorem uU {w:World}{b n c:Nat}{f:ByteArray→Option Value}(h:dY w b n f c){t e:TypeId}(ht:Tryz.prog.underlying t=some (.map 9 e)){z:Value}(hz:(zeroValue e).run Tryz.prog w= .ok z w)(s:ByteArray)(hs:s.size≤maxLen):
  (Instr.lookup t (.map (some b)) (.string s) false).run Tryz.prog w= .ok ((f s).getD z) w∧(Instr.lookup t (.map (some b)) (.string s) true).run Tryz.prog w= .ok (.tuple #[(f s).getD z,.bool (f s).isSome]) w:=by
 obtain⟨D,h1,h2,h3,h4⟩:=h;have hk:=keyOf_string_mk Tryz.underlying9 hs;obtain⟨v,ps,hrun,hv⟩:=h1.lookup Uh ht hz (zd:= .held z) (zp:=[]) rfl hk;obtain⟨v',ps',hrun',hv'⟩:=h1.look_ok Uh ht hz (zd:= .held z) (zp:=[]) rfl hk
 have key:∀u ps,zM u=some (D.atKey (sk s) (.held z),ps)→u=(f s).getD z:=by
  intro u ps hu;rw[h3]at hu;unfold zM at hu
  cases hf:f s with
  |none=>rw[hf]at hu;simp at hu;exact hu.1
  |some y=>rw[hf]at hu;simp at hu;exact hu.1
 rw[key v ps hv]at hrun;rw[key v' ps' hv',show has D (sk s)=(f s).isSome from h2 s]at hrun';exact⟨hrun,hrun'⟩
theorem oJ (hg:o.guard=none)(m x:Operand)(t:TypeId)(hop:o.op=Op.lookup t m x false)(e:TypeId)(ht:Tryz.prog.underlying t=some (.map 9 e)){z:Value}(hz:(zeroValue e).run Tryz.prog w= .ok z w)(b n c:Nat)(f:ByteArray→Option Value)
  (hm:a.eval m= .map (some b))(h:dY w b n f c)(s:ByteArray)(hx:a.eval x= .string s)(hs:s.size≤maxLen)(v:Value)(hv:(f s).getD z=v)(hK:wpList Tryz.prog ops Q rest (a.put o.dst v) w):wpList Tryz.prog ops Q (o::rest) a w:=by
 subst hv;refine wpList_plain hg fun K' hK'=>?_;exact adp
theorem fE (hg:o.guard=none)(m x:Operand)(t:TypeId)(hop:o.op=Op.lookup t m x true)(e:TypeId)(ht:Tryz.prog.underlying t=some (.map 9 e)){z:Value}(hz:(zeroValue e).run Tryz.prog w= .ok z w)(b n c:Nat)(f:ByteArray→Option Value)
  (hm:a.eval m= .map (some b))(h:dY w b n f c)(s:ByteArray)(hx:a.eval x= .string s)(hs:s.size≤maxLen)(v:Value)(hv:(f s).getD z=v)(k:Bool)(hk:(f s).isSome=k)(hK:wpList Tryz.prog ops Q rest (a.put o.dst (.tuple #[v,.bool k])) w):wpList Tryz.prog ops Q (o::rest) a w:=by
 subst hv hk;refine wpList_plain hg fun K' hK'=>?_;unfold Oper.wp;simp[execOp,hop,hm,hx,(uU h ht hz s hs).2,Result.andThen];exact hK' _ _ hK
theorem qd (hg:o.guard=none)(m x y:Operand)(t:TypeId)(hop:o.op=Op.mapUpdate t m x y)(e:TypeId)(ht:Tryz.prog.underlying t=some (.map 9 e))(b n c:Nat)(f:ByteArray→Option Value)
  (hm:a.eval m= .map (some b))(h:dY w b n f c)(hn:n<maxLen)(s:ByteArray)(hx:a.eval x= .string s)(hs:s.size≤maxLen)(v:Value)(hv:a.eval y=v)
  (hK:∀w',dY w' b (n+1) (fun t=>if t=s then some v else f t) (if(f s).isSome then c else c+1)→w.grownBy w' (some b)→wpList Tryz.prog ops Q rest (a.put o.dst undef) w'):wpList Tryz.prog ops Q (o::rest) a w:=by
 have hh:=h;obtain⟨D,h1,h2,h3,h4⟩:=h;refine wpList_mapUpdate_own w hg m x y t hop 9 e Uh ht zM b n D hm h1 hn _ _ (sk s) hx hv (keyOf_string_mk Tryz.underlying9 hs) (.held v) [] rfl ?_;intro w' q1 q2;exact hK w' (hh.put s v h1 h2 h3 h4 q1) q2
theorem Dp (hg:o.guard=none)(m:Operand)(t:TypeId)(hop:o.op=Op.call {callee:=Callee.builtin Builtin.len,args:=#[m],argTypes:=#[t]})(e:TypeId)(ht:Tryz.prog.underlying t=some (.map 9 e))(b n c:Nat)(f:ByteArray→Option Value)
  (hm:a.eval m= .map (some b))(h:dY w b n f c)(hK:wpList Tryz.prog ops Q rest (a.put o.dst (.int .i64 (c:Nat))) w):wpList Tryz.prog ops Q (o::rest) a w:=by
 obtain⟨D,h1,h2,h3,rfl⟩:=h;exact wpList_len_own w hg m t hop 9 e ht zM b n D hm h1 hK
end
end Go.Proofs.YtldgmneijipbjaaGreatDoor.H
