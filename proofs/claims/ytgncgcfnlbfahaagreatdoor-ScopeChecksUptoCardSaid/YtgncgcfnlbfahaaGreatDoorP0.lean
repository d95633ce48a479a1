import Derived.Test.YtgncgcfnlbfahaaGreatDoorD0
set_option linter.all false
namespace Go.Proofs.YtgncgcfnlbfahaaGreatDoor
open Go.RowKit
def jZ(l:List ByteArray):Nat:=(l.map fun s=>1+s.size).sum
def gZ(l:List (ByteArray×Int)):Nat:=(l.map fun x=>1+x.1.size).sum
mutual
def Ex.wy:Ex→Nat | .mk _ _ _ _ _ s a f=>1+s.size+Ex.wys a+Fn.wys f
def Ex.wys:List Ex→Nat|[]=>0|x::r=>x.wy+Ex.wys r
def Fn.wy:Fn→Nat | .mk n ps _ b _=>1+n.size+jZ ps+St.wys b
def Fn.wys:List Fn→Nat|[]=>0|x::r=>x.wy+Fn.wys r
def St.wy:St→Nat | .mk _ _ ns l r b lab=>1+lab.size+gZ ns+Ex.wys l+Ex.wys r+St.wyss b
def St.wys:List St→Nat|[]=>0|x::r=>x.wy+St.wys r
def St.wyss:List (List St)→Nat|[]=>0|x::r=>1+St.wys x+St.wyss r
end
theorem Ex.wy_mem{x:Ex}{l:List Ex}(h:x∈l):x.wy≤Ex.wys l:=by
 induction l with
 |nil=>cases h
 |cons y r ih =>
  simp only[Ex.wys];rcases List.mem_cons.1 h with rfl|h
  ·omega
  ·have:=ih h;omega
theorem Fn.wy_mem{x:Fn}{l:List Fn}(h:x∈l):x.wy≤Fn.wys l:=by
 induction l with
 |nil=>cases h
 |cons y r ih =>
  simp only[Fn.wys];rcases List.mem_cons.1 h with rfl|h
  ·omega
  ·have:=ih h;omega
theorem St.wy_mem{x:St}{l:List St}(h:x∈l):x.wy≤St.wys l:=by
 induction l with
 |nil=>cases h
 |cons y r ih =>
  simp only[St.wys];rcases List.mem_cons.1 h with rfl|h
  ·omega
  ·have:=ih h;omega
theorem St.wys_mem{x:List St}{l:List (List St)}(h:x∈l):St.wys x+1≤St.wyss l:=by
 induction l with
 |nil=>cases h
 |cons y r ih =>
  simp only[St.wyss];rcases List.mem_cons.1 h with rfl|h
  ·omega
  ·have:=ih h;omega
theorem Ex.wy_eq(x:Ex):x.wy=1+x.str.size+Ex.wys x.args+Fn.wys x.funcs:=by cases x;simp[Ex.wy,Ex.args,Ex.funcs,Ex.str]
theorem Fn.wy_eq(x:Fn):x.wy=1+x.name.size+jZ x.params+St.wys x.body:=by cases x;simp[Fn.wy,Fn.body,Fn.name,Fn.params]
theorem St.wy_eq(x:St):x.wy=1+x.label.size+gZ x.names+Ex.wys x.left+Ex.wys x.right+St.wyss x.blocks:=by cases x;simp[St.wy,St.left,St.right,St.blocks,St.label,St.names]
