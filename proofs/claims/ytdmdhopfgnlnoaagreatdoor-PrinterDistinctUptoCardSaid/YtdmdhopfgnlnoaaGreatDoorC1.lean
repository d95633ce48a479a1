/- tree.Check, tree.Size, tree.Depth: what they compute, as plain data. Contracts of the package lexer's tests of bytes, and of Name. Contracts of lexer.initials, wordBytes, Keyword, span, Name. -/
import Derived.Test.YtdmdhopfgnlnoaaGreatDoorD0
import Derived.Lib.Join
import Derived.Test.YtdmdhopfgnlnoaaGreatDoorI1
import Derived.Test.YtdmdhopfgnlnoaaGreatDoorQ0
import Derived.Deep.QuietTactic
import Derived.BigQuiet
import Derived.RegionTactic
import Derived.ChangeAlike
import Derived.BigRegion
import Derived.Deep.DeepCutAuto
import Derived.Deep.LoopGhost
import Derived.Deep.DeepMust
import Derived.Deep.RegionHeld3
import Derived.Outline
import Derived.Deep.RegionHeld3
import Derived.WalkKit
namespace Go.Proofs.YtdmdhopfgnlnoaaGreatDoor
open Go.RowKit
set_option linter.unusedVariables false
set_option linter.unusedSimpArgs false
set_option maxHeartbeats 4000000
theorem Zu {α:Type} {l:List α} {i:Nat} {a:α}:l.toArray.setIfInBounds i a=(l.set i a).toArray:=List.setIfInBounds_toArray ..
theorem Zt {α:Type} {a b:α} {l:List α}:(a::l).set 0 b=b::l:=rfl
theorem Zs {α:Type} {a b:α} {l:List α} {n:Nat}:(a::l).set (n+1) b=a::l.set n b:=rfl
section
variable {P:Program} {ops:Array Oper} {Q:Exit→Act→World→Prop} {md:Region.Mode} {S:World→Prop} {oi:Oper} {v:Value} {fuel:Nat} {listed:Array Bool} {a a':Act} {w:World} {d:Nat}
theorem tH (i:Nat) (h:wpAnyH P md ops Q S fuel (listed.setIfInBounds i true) a' w) (hi:ops[i]?=some oi:=by exact rfl) (hd:oi.dst=some d:=by exact rfl) (hs:Region.noSelect ops=true:=by kernel_rfl) (hf:Region.free md ops listed i=true:=by kernel_rfl) (hr:(Region.ready md ops listed).contains i=true:=by kernel_rfl)
    (hy:YieldsIf P ops S oi v a:=by exact Or.inl ⟨by rfl,by (intro w9 hS9;(try dsimp only at hS9);go_simp;try with_reducible rfl)⟩) (ha:Act.put a (some d) v=a':=by (try simp only [Act.put,Zu,Zt,Zs]);first|done|exact rfl)
    (hQ:∀ c a w,Q (.panic c) (a.put oi.dst v) w→Q (.panic c) a w:=by exact fun _ _ _ h=>h) (hS:S w:=by assumption) :
    wpAnyH P md ops Q S (fuel+1) listed a w :=
  wpAnyH_take hi hs hf hr hQ hy hS (by rw [hd,ha];exact h)
theorem uH (i:Nat) (h:wpAnyH P md ops Q S fuel (listed.setIfInBounds i true) a' w) (hi:ops[i]?=some oi:=by exact rfl) (hd:oi.dst=some d:=by exact rfl) (hs:Region.noSelect ops=true:=by kernel_rfl) (hf:Region.free md ops listed i=true:=by kernel_rfl) (hr:(Region.ready md ops listed).contains i=true:=by kernel_rfl)
    (hy:Region.wanted oi (yielded ops a.tmps)=false:=by rfl) (ha:Act.put a (some d) undef=a':=by (try simp only [Act.put,Zu,Zt,Zs]);first|done|exact rfl)
    (hQ:∀ c a w,Q (.panic c) (a.put oi.dst undef) w→Q (.panic c) a w:=by exact fun _ _ _ h=>h) (hS:S w:=by assumption) :
    wpAnyH P md ops Q S (fuel+1) listed a w :=
  wpAnyH_take hi hs hf hr hQ (.inr ⟨hy,rfl⟩) hS (by rw [hd,ha];exact h)
end
def Vl (a b:Int):Int:=if a=0 then b else a
def Zf:List Int→Int
  | []=>0
  | x::r=>Vl x (Zf r)
theorem zG {a b:Int}:Vl a b=0↔a=0∧b=0:=by
  unfold Vl;split
  · simp [*]
  · rename_i h;simp [h]
theorem QE {l:List Int}:Zf l=0↔∀ x ∈ l,x=0:=by
  induction l with
  | nil=>simp [Zf]
  | cons a r ih=>simp [Zf,zG,ih]
theorem ZY (a b:List Int):Zf (a++b)=Vl (Zf a) (Zf b):=by
  induction a with
  | nil=>simp [Zf,Vl]
  | cons x r ih=>simp only [List.cons_append,Zf,ih];unfold Vl;split <;> rfl
def Qv {α:Type}:List α→List α→List α
  | a::r,b::s=>a::b::Qv r s
  | [],s=>s
  | r,[]=>r
theorem Yj {α:Type} {x:α}:∀ (a b:List α),x ∈ Qv a b↔x ∈ a∨x ∈ b
  | a::r,b::s=>by simp only [Qv,List.mem_cons,Yj r s,or_assoc,or_left_comm]
  | [],s=>by simp [Qv]
  | a::r,[]=>by simp [Qv]
theorem zipA_map {α β:Type} (f:α→β):∀ (a b:List α),(Qv a b).map f=Qv (a.map f) (b.map f)
  | a::r,b::s=>by simp [Qv,zipA_map f r s]
  | [],s=>by simp [Qv]
  | a::r,[]=>by simp [Qv]
def zi {α:Type} (k:Int) (l r b:List α):List α:=l++(if k=7 then b++r else if k=8 then Qv r b else r++b)
theorem zA {α:Type} {k:Int} {l r b:List α} {x:α}:x ∈ zi k l r b↔x ∈ l∨x ∈ r∨x ∈ b:=by
  unfold zi;split
  · simp [or_comm,or_left_comm]
  · split
    · simp [Yj]
    · simp
theorem Kk {α β:Type} (f:α→β) (k:Int) (l r b:List α):(zi k l r b).map f=zi k (l.map f) (r.map f) (b.map f):=by
  unfold zi;split
  · simp
  · split
    · simp [zipA_map]
    · simp
def zk (c:UInt8):Bool:=(97≤c && c≤122) || (65≤c && c≤90) || c==95
def wordB (c:UInt8):Bool:=zk c || (48≤c && c≤57)
def kwL (l:List UInt8):Bool:=l==[97,110,100] || l==[98,114,101,97,107] || l==[100,111] || l==[101,108,115,101] || l==[101,108,115,101,105,102] || l==[101,110,100] || l==[102,97,108,115,101] || l==[102,111,114] || l==[102,117,110,99,116,105,111,110] || l==[103,111,116,111] || l==[105,102] || l==[105,110] || l==[108,111,99,97,108] || l==[110,105,108] || l==[110,111,116] || l==[111,114] || l==[114,101,112,101,97,116] || l==[114,101,116,117,114,110] || l==[116,104,101,110] || l==[116,114,117,101] || l==[117,110,116,105,108] || l==[119,104,105,108,101]
def isKw (s:ByteArray):Bool:=kwL s.toList
def ZG (s:ByteArray):Bool:=match s.data.toList with
  | []=>false
  | c::r=>decide (s.size≤40) && !isKw s && zk c && (c::r).all wordB
structure Ttl where
  names:List ByteArray
  method:ByteArray
def ttl0:Ttl:=⟨[.empty],.empty⟩
def Qr:Ex→Option (List ByteArray)
  | .mk k _ _ _ _ s [x,y] _=>if k=7 then some [s] else if k=8 then (if y.kind=5∧ZG y.str=true then (Qr x).map (·++[y.str]) else none) else none
  | .mk k _ _ _ _ s _ _=>if k=7 then some [s] else none
def zu (l:List ByteArray):ByteArray:=⟨(Lib.join (l.map (·.data.toList)) [46]).toArray⟩
def ZP (s:St):Ttl :=
  if s.kind=2∧s.names.length=1 then ⟨[(s.names.headD default).1],.empty⟩
  else if s.kind=3∧s.left.length=1∧s.right.length=1 then
    match Qr (s.left.headD default) with
    | none=>ttl0
    | some l=>⟨[.empty,zu l],if 1<l.length then ⟨((zu l.dropLast).data.toList++58::(l.getLastD default).data.toList).toArray⟩ else .empty⟩
  else ttl0
def qf:ByteArray:=⟨#[115,101,108,102]⟩
def zn (t:Ttl) (f:Fn):Bool:=t.names.any (fun n=>decide (n=f.name)) || (!t.method.toList.isEmpty && decide (f.name=t.method) && decide (f.params.head?=some qf))
def qW (k:Int):Bool:=(k==9) || (k==10) || (k==6)
def qU (p q:Int):Bool:=decide (1≤q∧q≤2147483647∧0≤p∧p≤2147483647∧Nat.gcd p.natAbs q.natAbs=1∧1000000000 % q=0)
def ZC (x:Ex) (op num str:Bool) (n:Int):Bool :=
  (op || x.op==0) && (num || (x.p==0 && x.q==0)) && (str || x.str.toList.isEmpty) && (decide (n<0) || (x.args.length:Int)==n) && (x.kind==11 || (x.funcs.length:Int)==0)
def zg (x:Ex):Bool:=match x.args with
  | []=>false
  | y::_=>y.kind != 6
def Zn (x:Ex) (parent:Int):Bool :=
  if x.kind=1∨x.kind=2∨x.kind=3∨x.kind=6 then ZC x false false false 0
  else if x.kind=4 then ZC x false true false 0 && qU x.p x.q
  else if x.kind=5∨x.kind=7 then ZC x false false true 0
  else if x.kind=8 then ZC x false false false 2 && zg x
  else if x.kind=9 then ZC x false false false (-1) && zg x
  else if x.kind=10 then ZC x false false true (-1) && zg x
  else if x.kind=11 then ZC x false false false 0 && decide (x.funcs.length=1)
  else if x.kind=12 then ZC x false false false (-1) && x.args.all (fun y=>y.kind==13 || y.kind==14)
  else if x.kind=13 then ZC x false false false 1 && parent==12
  else if x.kind=14 then ZC x false false false 2 && parent==12
  else if x.kind=15 then ZC x true false false 1 && decide (20≤x.op∧x.op≤23)
  else if x.kind=16 then ZC x true false false 2 && decide (1≤x.op∧x.op≤19)
  else if x.kind=17∨x.kind=18 then ZC x false false false 2
  else if x.kind=19 then ZC x false false false 1 && (match x.args with|y::_=>qW y.kind|[]=>false)
  else false
def Jf (x:Ex) (parent:Int) (t:Ttl):Int :=
  if (if x.kind=5 then 4096 else 40)<x.str.size then 3
  else if x.funcs.any (fun f=>decide (4096<f.name.size) || f.params.any (fun p=>decide (40<p.size))) then 3
  else if decide (x.line<0) || !Zn x parent then 4
  else if x.funcs.any (fun f=>decide (f.line<0) || !zn t f) then 4
  else if (x.kind==7 || x.kind==10) && !ZG x.str then 9
  else if x.funcs.any (fun f=>f.params.any (fun p => !ZG p)) then 9
  else 0
def ZM (n want:Int):Bool:=n==want || want==-1 || (want==-2 && decide (1≤n))
def Zv (s:St) (names left right blocks:Int) (label:Bool):Bool :=
  ZM s.names.length names && ZM s.left.length left && ZM s.right.length right && ZM s.blocks.length blocks && (label || s.label.toList.isEmpty)
def Vh (l:List (ByteArray × Int)):Bool:=l.all (fun x=>x.2==0)
def Zx (l:List Ex):Int:=match l with
  | []=>0
  | y::_=>y.kind
def Zp (s:St) (last:Bool):Bool :=
  if s.kind=1 then Zv s (-2) 0 (-1) 0 false && s.names.all (fun x=>decide (0≤x.2∧x.2≤2))
  else if s.kind=2 then Zv s 1 0 1 0 false && Vh s.names && Zx s.right==11
  else if s.kind=3 then Zv s 0 (-2) (-2) 0 false && s.left.all (fun x=>x.kind==7 || x.kind==8)
  else if s.kind=4 then Zv s 0 0 1 0 false && (Zx s.right==9 || Zx s.right==10)
  else if s.kind=5 then Zv s 0 0 0 1 false
  else if s.kind=6∨s.kind=7 then Zv s 0 0 1 1 false
  else if s.kind=8 then Zv s 0 0 (-2) (-1) false && (s.blocks.length==s.right.length || s.blocks.length==s.right.length+1)
  else if s.kind=9 then (Zv s 1 0 2 1 false || Zv s 1 0 3 1 false) && Vh s.names
  else if s.kind=10 then Zv s (-2) 0 (-2) 1 false && Vh s.names
  else if s.kind=11 then Zv s 0 0 (-1) 0 false && last
  else if s.kind=12 then Zv s 0 0 0 0 false
  else if s.kind=13∨s.kind=14 then Zv s 0 0 0 0 true
  else false
def VI (s:St) (last:Bool):Int :=
  if 40<s.label.size then 3
  else if s.names.any (fun x=>decide (40<x.1.size)) then 3
  else if decide (s.line<0) || !Zp s last then 4
  else if (s.kind==13 || s.kind==14) && !ZG s.label then 9
  else if s.names.any (fun x => !ZG x.1) then 9
  else 0
mutual
def ZH (t:Ttl) (parent:Int):Ex→Int
  | .mk k o l p q s args funcs=>Vl (Jf (.mk k o l p q s args funcs) parent t) (Vl (Zf (Kt ttl0 k args)) (Zf (XM funcs)))
def Kt (t:Ttl) (parent:Int):List Ex→List Int
  | []=>[]
  | x::r=>ZH t parent x::Kt t parent r
def errF:Fn→Int
  | .mk _ _ _ b _=>Zf (ZI b)
def XM:List Fn→List Int
  | []=>[]
  | f::r=>errF f::XM r
def Qs (last:Bool):St→Int
  | .mk k l ns left right blocks lab =>
    Vl (VI (.mk k l ns left right blocks lab) last)
      (Zf (zi k (Kt (ZP (.mk k l ns left right blocks lab)) 0 left) (Kt (ZP (.mk k l ns left right blocks lab)) 0 right) (yj blocks)))
def ZI:List St→List Int
  | []=>[]
  | s::r=>Qs r.isEmpty s::ZI r
def yj:List (List St)→List Int
  | []=>[]
  | b::r=>Zf (ZI b)::yj r
end
theorem Ks (t:Ttl) (k:Int) (l:List Ex):Kt t k l=l.map (ZH t k):=by induction l with|nil=>rfl|cons x r ih=>simp [Kt,ih]
theorem errFs_map (l:List Fn):XM l=l.map errF:=by induction l with|nil=>rfl|cons x r ih=>simp [XM,ih]
theorem errBs_map (l:List (List St)):yj l=l.map fun b=>Zf (ZI b):=by induction l with|nil=>rfl|cons x r ih=>simp [yj,ih]
theorem vB (t:Ttl) (k:Int) (x:Ex):ZH t k x=Vl (Jf x k t) (Vl (Zf (x.args.map (ZH ttl0 x.kind))) (Zf (x.funcs.map errF))):=by
  cases x;simp only [ZH,Ks,errFs_map,Ex.kind,Ex.args,Ex.funcs]
theorem errF_eq (f:Fn):errF f=Zf (ZI f.body):=by cases f;simp only [errF,Fn.body]
theorem errS_eq (last:Bool) (s:St):Qs last s=Vl (VI s last) (Zf (zi s.kind (s.left.map (ZH (ZP s) 0)) (s.right.map (ZH (ZP s) 0)) (s.blocks.map fun b=>Zf (ZI b)))):=by
  cases s;simp only [Qs,Ks,errBs_map,St.kind,St.left,St.right,St.blocks]
mutual
def Ex.wz:Ex→Nat | .mk _ _ _ _ _ s a f=>1+s.size+Ex.wzs a+Fn.wzs f
def Ex.wzs:List Ex→Nat|[]=>0|x::r=>x.wz+Ex.wzs r
def Fn.wz:Fn→Nat | .mk _ _ _ b _=>1+St.wzs b
def Fn.wzs:List Fn→Nat|[]=>0|x::r=>x.wz+Fn.wzs r
def St.wz:St→Nat | .mk _ _ _ l r b _=>1+Ex.wzs l+Ex.wzs r+St.wzss b
def St.wzs:List St→Nat|[]=>0|x::r=>x.wz+St.wzs r
def St.wzss:List (List St)→Nat|[]=>0|x::r=>1+St.wzs x+St.wzss r
end
theorem Ex.wz_mem {x:Ex} {l:List Ex} (h:x ∈ l):x.wz≤Ex.wzs l:=by
  induction l with
  | nil=>cases h
  | cons y r ih =>
    simp only [Ex.wzs];rcases List.mem_cons.1 h with rfl|h
    · omega
    · have:=ih h;omega
theorem Fn.wz_mem {x:Fn} {l:List Fn} (h:x ∈ l):x.wz≤Fn.wzs l:=by
  induction l with
  | nil=>cases h
  | cons y r ih =>
    simp only [Fn.wzs];rcases List.mem_cons.1 h with rfl|h
    · omega
    · have:=ih h;omega
theorem St.wz_mem {x:St} {l:List St} (h:x ∈ l):x.wz≤St.wzs l:=by
  induction l with
  | nil=>cases h
  | cons y r ih =>
    simp only [St.wzs];rcases List.mem_cons.1 h with rfl|h
    · omega
    · have:=ih h;omega
theorem St.wzs_mem {x:List St} {l:List (List St)} (h:x ∈ l):St.wzs x+1≤St.wzss l:=by
  induction l with
  | nil=>cases h
  | cons y r ih =>
    simp only [St.wzss];rcases List.mem_cons.1 h with rfl|h
    · omega
    · have:=ih h;omega
theorem Ex.wz_eq (x:Ex):x.wz=1+x.str.size+Ex.wzs x.args+Fn.wzs x.funcs:=by cases x;simp [Ex.wz,Ex.args,Ex.funcs,Ex.str]
theorem Fn.wz_eq (x:Fn):x.wz=1+St.wzs x.body:=by cases x;simp [Fn.wz,Fn.body]
theorem St.wz_eq (x:St):x.wz=1+Ex.wzs x.left+Ex.wzs x.right+St.wzss x.blocks:=by cases x;simp [St.wz,St.left,St.right,St.blocks]
theorem Ex.argsW {x y:Ex} (h:y ∈ x.args):y.wz<x.wz:=by have:=Ex.wz_mem h;rw [x.wz_eq];omega
theorem Ex.bodyW {x:Ex} {y:Fn} (h:y ∈ x.funcs):St.wzs y.body+1<x.wz:=by have:=Fn.wz_mem h;rw [y.wz_eq] at this;rw [x.wz_eq];omega
theorem St.leftW {s:St} {y:Ex} (h:y ∈ s.left):y.wz<s.wz:=by have:=Ex.wz_mem h;rw [s.wz_eq];omega
theorem St.rightW {s:St} {y:Ex} (h:y ∈ s.right):y.wz<s.wz:=by have:=Ex.wz_mem h;rw [s.wz_eq];omega
theorem St.blocksW {s:St} {b:List St} (h:b ∈ s.blocks):St.wzs b+1<s.wz:=by have:=St.wzs_mem h;rw [s.wz_eq];omega
mutual
def dE:Ex→Nat
  | .mk _ _ _ _ _ _ a f=>1+max (zZ a) (JM f)
def zZ:List Ex→Nat
  | []=>0
  | x::r=>max (dE x) (zZ r)
def dF:Fn→Nat
  | .mk _ _ _ b _=>1+VL b
def JM:List Fn→Nat
  | []=>0
  | x::r=>max (dF x) (JM r)
def dS:St→Nat
  | .mk _ _ _ l r b _=>max (zZ l) (max (zZ r) (YR b))
def VL:List St→Nat
  | []=>0
  | x::r=>max (dS x) (VL r)
def YR:List (List St)→Nat
  | []=>0
  | x::r=>max (1+VL x) (YR r)
end
def qb (w:World) (v:Value) (p:Int→Bool):Prop:=∃ (f:Nat) (cap:Array Value),v=.func (.func f) #[] cap∧(∀ args w',(callFunc f args).run Tryz.prog w'=.ok (.enter f args) w')∧∀ (c:Int) (W:World),0≤c→c≤255→Below w.heap.size w W→Calls Tryz.prog f (#[.int .u8 c]++cap) W fun e W'=>e=.returned (.bool (p c))∧Below W.heap.size W W'
theorem qb.below {w w':World} {v:Value} {p:Int→Bool} (h:qb w v p) (hb:Below w.heap.size w w'):qb w' v p:=by
  obtain ⟨f,cap,h1,h2,h3⟩:=h;exact ⟨f,cap,h1,h2,fun c W a b hW=>h3 c W a b (hb.trans (hW.mono hb.size))⟩
theorem Yx:∀ args w,(callFunc 161 args).run Tryz.prog w=.ok (.enter 161 args) w:=enters_of Tryz.func161 (by kernel_rfl) rfl
theorem enters_one:∀ args w,(callFunc 162 args).run Tryz.prog w=.ok (.enter 162 args) w:=enters_of Tryz.func162 (by kernel_rfl) rfl
theorem YP:∀ args w,(callFunc 158 args).run Tryz.prog w=.ok (.enter 158 args) w:=enters_of Tryz.func158 (by kernel_rfl) rfl
def betB (lo hi:Int) (c:Int):Bool:=decide (lo≤c) && decide (c≤hi)
theorem between1_any (c lo hi:Int) (bl bh:Nat) (w:World) (hl:w.cell? ⟨bl,0,none⟩=some (.int .u8 lo)) (hh:w.cell? ⟨bh,0,none⟩=some (.int .u8 hi)) :
    Calls Tryz.prog 161 #[.int .u8 c,.pointer (some ⟨bl,0,none⟩),.pointer (some ⟨bh,0,none⟩)] w fun e w'=>e=.returned (.bool (betB lo hi c))∧w'=w:=by
  have hm:betB lo hi c=(decide (lo≤c) && decide (c≤hi)):=rfl;have HM:=hI hm;clear hm;cases h1:decide (lo≤c) <;> cases h2:decide (c≤hi)
  all_goals
    go_enter Tryz.func161,Tryz.ntmps161
    go_wp2_with fail
    go_ret;exact ⟨by rw [HM.out,h1,h2];rfl,rfl⟩
theorem qp (lo hi:Int) (w:World) :
    Calls Tryz.prog 141 #[.int .u8 lo,.int .u8 hi] w fun e w'=>∃ v,e=.returned v∧qb w' v (betB lo hi)∧Below w.heap.size w w':=by
  go_enter Tryz.func141,Tryz.ntmps141
  go_wp2_with fail
  go_ret;refine ⟨_,rfl,⟨_,_,rfl,Yx,fun c W a b hW=>?_⟩,bw⟩;refine (between1_any c lo hi _ _ W ?_ ?_).mono fun e W' h=>⟨h.1,by rw [h.2];exact Below.refl _ _⟩
  · rw [hW.cell (by simp;omega)];simp
  · rw [hW.cell (by simp)];simp
theorem digits_any (w:World) :
    Calls Tryz.prog 143 #[] w fun e w'=>∃ v,e=.returned v∧qb w' v (betB 48 57)∧Below w.heap.size w w':=by
  go_enter Tryz.func143,Tryz.ntmps143
  go_wp2_with (go_at_call 141;go_loud (refine (qp _ _ _).mono ?_;rintro e w1 ⟨v,rfl,hv,hb⟩))
  go_ret;exact ⟨_,rfl,hv,bw⟩
def oneB (s:ByteArray) (c:Int):Bool:=decide (0≤Lib.indexByte s.data.toList c.toNat.toUInt8)
theorem one1_any (s:ByteArray) (c:Int) (b:Nat) (w:World) (hs:w.cell? ⟨b,0,none⟩=some (.string s)) :
    Calls Tryz.prog 162 #[.int .u8 c,.pointer (some ⟨b,0,none⟩)] w fun e w'=>e=.returned (.bool (oneB s c))∧w'=w:=by
  unfold oneB;obtain ⟨n,hn⟩:∃ n,n=Lib.indexByte s.data.toList c.toNat.toUInt8:=⟨_,rfl⟩
  have HC:=hI (Tryz.strings_IndexByte s c);rw [←hn] at HC ⊢;clear hn
  go_enter Tryz.func162,Tryz.ntmps162
  go_wp2_with (go_at_call 163;go_loud (refine (HC.out _).mono ?_;rintro e w1 ⟨rfl,rfl⟩))
  go_ret;exact ⟨rfl,rfl⟩
theorem one_any (s:ByteArray) (w:World) :
    Calls Tryz.prog 142 #[.string s] w fun e w'=>∃ v,e=.returned v∧qb w' v (oneB s)∧Below w.heap.size w w':=by
  go_enter Tryz.func142,Tryz.ntmps142
  go_wp2_with fail
  go_ret;refine ⟨_,rfl,⟨_,_,rfl,enters_one,fun c W a b hW=>?_⟩,bw⟩;refine (one1_any s c _ W ?_).mono fun e W' h=>⟨h.1,by rw [h.2];exact Below.refl _ _⟩;rw [hW.cell (by simp)];simp
theorem either11_any {w0:World} {v:Value} {p:Int→Bool} (hv:qb w0 v p) (c:Int) (h0:0≤c) (h1:c≤255) (b:Nat) (w:World) (hb:Below w0.heap.size w0 w) (hc:w.cell? ⟨b,0,none⟩=some (.int .u8 c)) :
    Calls Tryz.prog 160 #[v,.pointer (some ⟨b,0,none⟩)] w fun e w'=>e=.returned (.bool (p c))∧Below w.heap.size w w':=by
  obtain ⟨f,cap,rfl,ef,hf⟩:=hv;have HF:=hI hf;clear hf;have HB:=hI hb;clear hb
  go_enter Tryz.func160,Tryz.ntmps160
  go_wp2_with ((with_reducible refine (HF.out c _ h0 h1 HB.out).mono ?_);rintro e w1 ⟨rfl,hb1⟩)
  go_ret;exact ⟨rfl,bw⟩
theorem JB:∀ args w,(callFunc 160 args).run Tryz.prog w=.ok (.enter 160 args) w:=enters_of Tryz.func160 (by kernel_rfl) rfl
def tvR (w:World) (p:Int→Bool) (cs:List Value):Prop:=∃ v,cs=[v]∧qb w v p
set_option maxRecDepth 100000 in
theorem index_test (c:Int) (h0:0≤c) (h1c:c≤255) (bc:Nat) (l:List (Int→Bool)) (la:Option Addr) (cap:Nat) (w0 w:World) (hcap:l.length≤cap) (hmx:cap≤MX) (hrow:Rows Ze w0 1 (tvR w0) l la) (hb0:Below w0.heap.size w0 w) (hbc:bc<w.heap.size) (hc:w.cell? ⟨bc,0,none⟩=some (.int .u8 c)) :
    Calls Tryz.prog 174 #[.slice la l.length cap,.func (.func 160) #[] #[.pointer (some ⟨bc,0,none⟩)]] w fun e w'=>e=.returned (.int .i64 (idxS (fun p=>p c) l))∧Below w.heap.size w w':=by
  unfold MX at hmx;have HB0:=hI hb0;clear hb0;have HCC:=hI hc;clear hc;have ent:=JB
  go_enter Tryz.func174,Tryz.ntmps174
  go_wp2_with fail
  go_loopg [5,8] l.length (fun gk u v wr=>∃ k:Nat,gk+k=l.length∧v=.int .i64 k∧Below w.heap.size w wr∧ZL (fun p=>p c) l k)
  case atStart=>exact ⟨0,by omega,rfl,Below.refl _ _,fun j x hj=>absurd hj (by omega)⟩
  case round =>
    obtain ⟨k,hk,rfl,hbw,hno⟩:=hrel;have HB:=hI hbw;clear hbw;have HN:=hI hno;clear hno;have HK:=hI hk;by_cases hlt:k<l.length
    · obtain ⟨x,hx⟩:∃ x,l[k]?=some x:=⟨_,List.getElem?_eq_getElem hlt⟩
      obtain ⟨b,off,h1,h2⟩:=hrow;obtain ⟨rfl,-,hlb⟩:=h1 (by rintro rfl;simp at hlt);obtain ⟨cs,hr,v,rfl,hat⟩:=h2 k x hx;have hb2:Below w0.heap.size w0 wr:=HB0.out.trans (HB.out.mono HB0.out.size);have hr':=(Zb hb2:ZA Ze w0 wr).range trivial hlb hr;have c0:=hr' 0 _ rfl;simp only [Nat.add_zero,Nat.mul_one] at c0;have hcw:wr.cell? ⟨bc,0,none⟩=some (.int .u8 c):=by rw [HB.out.cell (by simpa using hbc)];exact HCC.out
      have HC:=hI (either11_any (hat.below hb2) c h0 h1c bc wr (Below.refl _ _) hcw);have HX:=hI hx;clear hx;clear hr hr' h1 h2 hat hk hcw hb2;cases hp:x c
      · have HP:=hI hp;clear hp
        go_wp2_with ((with_reducible refine HC.out.mono ?_);(rw [HP.out];rintro e w1 ⟨rfl,hb⟩;have HB1:=hI hb;clear hb))
        go_roundg (gk - 1)
        case rel=>exact ⟨k+1,by have:=HK.out;omega,by go_num,thru HB1.out HB.out,HN.out.succ HX.out HP.out⟩
        case measure=>have:=HK.out;omega
      · have HP:=hI hp;clear hp
        go_wp2_with ((with_reducible refine HC.out.mono ?_);(rw [HP.out];rintro e w1 ⟨rfl,hb⟩;have HB1:=hI hb;clear hb))
        go_ret;exact ⟨by rw [Jc HN.out HX.out HP.out];rfl,thru HB1.out HB.out⟩
    · have HE:k=l.length:=by omega
      have HE':=hI HE;clear HE;clear hk
      go_wp2_with fail
      go_ret;exact ⟨by rw [Jd (by have:=HE'.out;subst this;exact HN.out)];rfl,HB.out⟩
theorem YS (c:Int) (h0:0≤c) (h1c:c≤255) (bc:Nat) (l:List (Int→Bool)) (la:Option Addr) (cap:Nat) (w0 w:World) (hcap:l.length≤cap) (hmx:cap≤MX) (hrow:Rows Ze w0 1 (tvR w0) l la) (hb0:Below w0.heap.size w0 w) (hbc:bc<w.heap.size) (hc:w.cell? ⟨bc,0,none⟩=some (.int .u8 c)) :
    Calls Tryz.prog 159 #[.slice la l.length cap,.func (.func 160) #[] #[.pointer (some ⟨bc,0,none⟩)]] w fun e w'=>e=.returned (.bool (l.any fun p=>p c))∧Below w.heap.size w w':=by
  have HC:=hI (index_test c h0 h1c bc l la cap w0 w hcap hmx hrow hb0 hbc hc);have HA:=hI (Yn (P:=fun p:Int→Bool=>p c) (l:=l));clear hrow hb0 hc
  go_enter Tryz.func159,Tryz.ntmps159
  go_wp2_with (go_at_call 174;go_loud (refine HC.out.mono ?_;rintro e w1 ⟨rfl,hb⟩))
  go_ret;exact ⟨by rw [←HA.out];rfl,hb⟩
theorem either1_any (c:Int) (h0:0≤c) (h1c:c≤255) (bl:Nat) (l:List (Int→Bool)) (la:Option Addr) (cap:Nat) (w0 w:World) (hcap:l.length≤cap) (hmx:cap≤MX) (hrow:Rows Ze w0 1 (tvR w0) l la) (hb0:Below w0.heap.size w0 w) (hl:w.cell? ⟨bl,0,none⟩=some (.slice la l.length cap)) (hbl:bl<w.heap.size) :
    Calls Tryz.prog 158 #[.int .u8 c,.pointer (some ⟨bl,0,none⟩)] w fun e w'=>e=.returned (.bool (l.any fun p=>p c))∧Below w.heap.size w w':=by
  have HB0:=hI hb0;clear hb0
  go_enter Tryz.func158,Tryz.ntmps158
  go_wp2_with (go_at_call 159;go_loud (refine (YS c h0 h1c w.heap.size l la cap w0 _ hcap hmx hrow (HB0.out.trans (((Below.refl _ _).alloc (Nat.le_refl _) _).mono HB0.out.size)) (by simp) (by simp)).mono ?_;rintro e w1 ⟨rfl,hb⟩))
  go_ret;exact ⟨rfl,bw⟩
theorem Yy (l:List (Int→Bool)) (la:Option Addr) (cap:Nat) (w:World) (hcap:l.length≤cap) (hmx:cap≤MX) (hrow:Rows Ze w 1 (tvR w) l la) :
    Calls Tryz.prog 140 #[.slice la l.length cap] w fun e w'=>∃ v,e=.returned v∧qb w' v (fun c=>l.any fun p=>p c)∧Below w.heap.size w w':=by
  have HR:=hI hrow;clear hrow
  go_enter Tryz.func140,Tryz.ntmps140
  go_wp2_with fail
  go_ret;refine ⟨_,rfl,⟨_,_,rfl,YP,fun c W a b hW=>?_⟩,bw⟩;have hs:=hW.size;simp at hs;exact either1_any c a b _ l la cap w W hcap hmx HR.out (((Below.refl _ _).alloc (Nat.le_refl _) _).trans (hW.mono (by simp))) (by rw [hW.cell (by simp)];simp) (by omega)
theorem rows_new {α:Type} {w:World} {R:α→List Value→Prop} {l:List α} {vs:Array Value} {T:TypeId} (hl:l.length=vs.size) (h:∀ (i:Nat) (x:α) (v:Value),l[i]?=some x→vs[i]?=some v→R x [v]) :
    Rows Ze (w.alloc (.cells vs T)) 1 R l (some ⟨w.heap.size,0,none⟩):=by
  refine ⟨w.heap.size,0,fun _=>⟨rfl,trivial,by simp⟩,fun i x hx=>?_⟩;have hi:i<l.length:=(List.getElem?_eq_some_iff.1 hx).1;have hv:vs[i]?=some (vs[i]'(by omega)):=Array.getElem?_eq_getElem (by omega);refine ⟨[vs[i]'(by omega)],fun j u hu=>?_,h i x _ hx hv⟩
  have hj:j=0:=by
    have:=(List.getElem?_eq_some_iff.1 hu).1;simp at this;exact this
  subst hj;simp at hu;have hb:=heap_alloc_new w (.cells vs T);rw [show (0+i*1+0)=i from by omega,cell_of_row _ _ i vs T (0,0) hb,hv,hu]
def initTs:List (Int→Bool):=[betB 97 122,betB 65 90,oneB ⟨#[95]⟩]
def initP (c:Int):Bool:=initTs.any fun p=>p c
def wordTs:List (Int→Bool):=[initP,betB 48 57]
def wordP (c:Int):Bool:=wordTs.any fun p=>p c
theorem zS (w:World) :
    Calls Tryz.prog 117 #[] w fun e w'=>∃ v,e=.returned v∧qb w' v initP∧Below w.heap.size w w':=by
  have tok1:True:=trivial;have tok2:True:=trivial
  go_enter Tryz.func117,Tryz.ntmps117
  go_wp2_with (first|(go_at_call 141;have _t:=tok1;(with_reducible refine (qp _ _ _).mono ?_);rintro e w1 ⟨v,rfl,hv1,hb1⟩;have HV1:=hI hv1;obtain ⟨f1,c1,rfl,-,-⟩:=hv1;clear tok1 _t)|(go_at_call 141;have _t:=tok2;(with_reducible refine (qp _ _ _).mono ?_);rintro e w2 ⟨v,rfl,hv2,hb2⟩;have HV2:=hI hv2;obtain ⟨f2,c2,rfl,-,-⟩:=hv2;clear tok2 _t)|(go_at_call 142;(with_reducible refine (one_any _ _).mono ?_);rintro e w3 ⟨v3,rfl,hv3,hb3⟩;have HV3:=hI hv3;obtain ⟨f3,c3,rfl,-,-⟩:=hv3))
  have hr:Rows Ze (w3.alloc (.cells #[.func (.func f1) #[] c1,.func (.func f2) #[] c2,.func (.func f3) #[] c3] 138)) 1 (tvR (w3.alloc (.cells #[.func (.func f1) #[] c1,.func (.func f2) #[] c2,.func (.func f3) #[] c3] 138))) initTs (some ⟨w3.heap.size,0,none⟩):=by
    refine rows_new rfl fun i x v h1 h2=>⟨v,rfl,?_⟩;have ha:Below w3.heap.size w3 (w3.alloc (.cells #[.func (.func f1) #[] c1,.func (.func f2) #[] c2,.func (.func f3) #[] c3] 138)):=Zj (Below.refl _ _) _
    match i,h1,h2 with
    | 0,h1,h2=>cases h1;cases h2;exact ((HV1.out.below hb2).below hb3).below ha
    | 1,h1,h2=>cases h1;cases h2;exact (HV2.out.below hb3).below ha
    | 2,h1,h2=>cases h1;cases h2;exact HV3.out.below ha
    | j+3,h1,h2=>simp [initTs] at h1
  have HR:=hI hr;clear hr;have hb:Below w.heap.size w w3:=thru hb3 (thru hb2 hb1)
  go_wp2_with (go_at_call 140;go_loud (refine (Yy initTs _ 3 _ (Nat.le_refl _) (by unfold MX;decide) HR.out).mono ?_;rintro e w4 ⟨v,rfl,hv,hb4⟩))
  go_ret;exact ⟨_,rfl,hv,bw⟩
theorem YK (w:World) :
    Calls Tryz.prog 119 #[] w fun e w'=>∃ v,e=.returned v∧qb w' v wordP∧Below w.heap.size w w':=by
  go_enter Tryz.func119,Tryz.ntmps119
  go_wp2_with (first|(go_at_call 117;(with_reducible refine (zS _).mono ?_);rintro e w1 ⟨v,rfl,hv1,hb1⟩;have HV1:=hI hv1;obtain ⟨f1,c1,rfl,-,-⟩:=hv1)|(go_at_call 143;(with_reducible refine (digits_any _).mono ?_);rintro e w3 ⟨v3,rfl,hv3,hb3⟩;have HV3:=hI hv3;obtain ⟨f3,c3,rfl,-,-⟩:=hv3))
  have hr:Rows Ze (w3.alloc (.cells #[.func (.func f1) #[] c1,.func (.func f3) #[] c3] 138)) 1 (tvR (w3.alloc (.cells #[.func (.func f1) #[] c1,.func (.func f3) #[] c3] 138))) wordTs (some ⟨w3.heap.size,0,none⟩):=by
    refine rows_new rfl fun i x v h1 h2=>⟨v,rfl,?_⟩;have ha:Below w3.heap.size w3 (w3.alloc (.cells #[.func (.func f1) #[] c1,.func (.func f3) #[] c3] 138)):=Zj (Below.refl _ _) _
    match i,h1,h2 with
    | 0,h1,h2=>cases h1;cases h2;exact (HV1.out.below hb3).below ha
    | 1,h1,h2=>cases h1;cases h2;exact HV3.out.below ha
    | j+2,h1,h2=>simp [wordTs] at h1
  have HR:=hI hr;clear hr;have hb:Below w.heap.size w w3:=thru hb3 hb1
  go_wp2_with (go_at_call 140;go_loud (refine (Yy wordTs _ 2 _ (Nat.le_refl _) (by unfold MX;decide) HR.out).mono ?_;rintro e w4 ⟨v,rfl,hv,hb4⟩))
  go_ret;exact ⟨_,rfl,hv,bw⟩
theorem qk (s:ByteArray) (w:World) :
    Calls Tryz.prog 116 #[.string s] w fun e w'=>e=.returned (.bool (isKw s))∧w'=w:=by
  unfold isKw;have hk:kwL s.toList=kwL s.toList:=rfl;unfold kwL at hk;obtain ⟨b,hb⟩:∃ b,b=kwL s.toList:=⟨_,rfl⟩
  rw [←hb];have HB:=hI hb;clear hb hk
  go_enter Tryz.func116,Tryz.ntmps116
  go_wp2_with fail
  all_goals
    go_ret;refine ⟨?_,rfl⟩;have hb:=HB.out;unfold kwL at hb;clear HB;simp_all
theorem Zq {s:St} {b:Bool}:Qs b s=0↔VI s b=0∧(∀ y ∈ s.left,ZH (ZP s) 0 y=0)∧(∀ y ∈ s.right,ZH (ZP s) 0 y=0)∧∀ l ∈ s.blocks,Zf (ZI l)=0:=by
  rw [errS_eq,zG,QE];constructor
  · rintro ⟨h,h2⟩;exact ⟨h,fun y hy=>h2 _ (zA.2 (.inl (List.mem_map_of_mem hy))),fun y hy=>h2 _ (zA.2 (.inr (.inl (List.mem_map_of_mem hy)))),fun y hy=>h2 _ (zA.2 (.inr (.inr (List.mem_map_of_mem (f:=fun b=>Zf (ZI b)) hy))))⟩
  · rintro ⟨h,h1,h2,h3⟩;refine ⟨h,fun e he=>?_⟩;rcases zA.1 he with he|he|he
    · obtain ⟨y,hy,rfl⟩:=List.mem_map.1 he;exact h1 y hy
    · obtain ⟨y,hy,rfl⟩:=List.mem_map.1 he;exact h2 y hy
    · obtain ⟨y,hy,rfl⟩:=List.mem_map.1 he;exact h3 y hy
theorem zE:∀ {l:List St},Zf (ZI l)=0↔∀ i s,l[i]?=some s→Qs (decide (i+1=l.length)) s=0
  | []=>by simp [ZI,Zf]
  | y::r=>by
    have ih:=zE (l:=r);have e:r.isEmpty=decide (0+1=(y::r).length):=by cases r <;> simp
    have e2:∀ j,decide (j+1+1=(y::r).length)=decide (j+1=r.length):=fun j=>by simp
    simp only [ZI,Zf,zG,ih];constructor
    · rintro ⟨h0,h1⟩ i s hi;cases i with
      | zero=>simp at hi;subst hi;rw [←e];exact h0
      | succ i=>rw [e2];exact h1 i s (by simpa using hi)
    · intro h;refine ⟨by rw [e];exact h 0 y rfl,fun i s hi=>by rw [←e2];exact h (i+1) s (by simpa using hi)⟩
end Go.Proofs.YtdmdhopfgnlnoaaGreatDoor
