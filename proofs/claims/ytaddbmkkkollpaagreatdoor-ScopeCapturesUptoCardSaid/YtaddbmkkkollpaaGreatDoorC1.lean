import Derived.Test.YtaddbmkkkollpaaGreatDoorD0
import Derived.Lib.Join
import Derived.Test.YtaddbmkkkollpaaGreatDoorI5
import Derived.Test.YtaddbmkkkollpaaGreatDoorQ0
import Derived.Deep.QuietTactic
import Derived.BigQuiet
import Derived.RegionTactic
import Derived.ChangeAlike
import Derived.BigRegion
import Derived.Deep.DeepCutAuto
import Derived.Deep.LoopGhost
import Derived.Deep.DeepMust
import Derived.Deep.RegionHeld3
import Derived.Outline
import Derived.Deep.RegionHeld3
import Derived.WalkKit
set_option linter.all false
namespace Go.Proofs.YtaddbmkkkollpaaGreatDoor
open Go.RowKit
set_option maxHeartbeats 4000000
theorem al {α:Type} {l:List α} {i:Nat} {a:α}:l.toArray.setIfInBounds i a=(l.set i a).toArray:=List.setIfInBounds_toArray ..
theorem am {α:Type} {a b:α} {l:List α}:(a::l).set 0 b=b::l:=rfl
theorem ap {α:Type} {a b:α} {l:List α} {n:Nat}:(a::l).set (n+1) b=a::l.set n b:=rfl
section
variable {P:Program} {ops:Array Oper} {Q:Exit→Act→World→Prop} {md:Region.Mode} {S:World→Prop} {oi:Oper} {v:Value} {fuel:Nat} {listed:Array Bool} {a a':Act} {w:World} {d:Nat}
theorem tH (i:Nat) (h:wpAnyH P md ops Q S fuel (listed.setIfInBounds i true) a' w) (hi:ops[i]?=some oi:=by exact rfl) (hd:oi.dst=some d:=by exact rfl) (hs:Region.noSelect ops=true:=by kernel_rfl) (hf:Region.free md ops listed i=true:=by kernel_rfl) (hr:(Region.ready md ops listed).contains i=true:=by kernel_rfl)
    (hy:YieldsIf P ops S oi v a:=by exact Or.inl ⟨by rfl,by (intro w9 hS9;(try dsimp only at hS9);go_simp;try with_reducible rfl)⟩) (ha:Act.put a (some d) v=a':=by (try simp only [Act.put,al,am,ap]);first|done|exact rfl)
    (hQ:∀ c a w,Q (.panic c) (a.put oi.dst v) w→Q (.panic c) a w:=by exact fun _ _ _ h=>h) (hS:S w:=by assumption) :
    wpAnyH P md ops Q S (fuel+1) listed a w :=
  wpAnyH_take hi hs hf hr hQ hy hS (by rw [hd,ha];exact h)
theorem uH (i:Nat) (h:wpAnyH P md ops Q S fuel (listed.setIfInBounds i true) a' w) (hi:ops[i]?=some oi:=by exact rfl) (hd:oi.dst=some d:=by exact rfl) (hs:Region.noSelect ops=true:=by kernel_rfl) (hf:Region.free md ops listed i=true:=by kernel_rfl) (hr:(Region.ready md ops listed).contains i=true:=by kernel_rfl)
    (hy:Region.wanted oi (yielded ops a.tmps)=false:=by rfl) (ha:Act.put a (some d) undef=a':=by (try simp only [Act.put,al,am,ap]);first|done|exact rfl)
    (hQ:∀ c a w,Q (.panic c) (a.put oi.dst undef) w→Q (.panic c) a w:=by exact fun _ _ _ h=>h) (hS:S w:=by assumption) :
    wpAnyH P md ops Q S (fuel+1) listed a w :=
  wpAnyH_take hi hs hf hr hQ (.inr ⟨hy,rfl⟩) hS (by rw [hd,ha];exact h)
end
def alt (a b:Int):Int:=if a=0 then b else a
def aB:List Int→Int
  | []=>0
  | x::r=>alt x (aB r)
theorem lg {a b:Int}:alt a b=0↔a=0∧b=0:=by
  unfold alt;split
  · simp [*]
  · rename_i h;simp [h]
theorem m5 {l:List Int}:aB l=0↔∀ x ∈ l,x=0:=by
  induction l with
  | nil=>simp [aB]
  | cons a r ih=>simp [aB,lg,ih]
theorem mZ (a b:List Int):aB (a++b)=alt (aB a) (aB b):=by
  induction a with
  | nil=>simp [aB,alt]
  | cons x r ih=>simp only [List.cons_append,aB,ih];unfold alt;split <;> rfl
def aP {α:Type}:List α→List α→List α
  | a::r,b::s=>a::b::aP r s
  | [],s=>s
  | r,[]=>r
theorem wH {α:Type} {x:α}:∀ (a b:List α),x ∈ aP a b↔x ∈ a∨x ∈ b
  | a::r,b::s=>by simp only [aP,List.mem_cons,wH r s,or_assoc,or_left_comm]
  | [],s=>by simp [aP]
  | a::r,[]=>by simp [aP]
theorem zI {α β:Type} (f:α→β):∀ (a b:List α),(aP a b).map f=aP (a.map f) (b.map f)
  | a::r,b::s=>by simp [aP,zI f r s]
  | [],s=>by simp [aP]
  | a::r,[]=>by simp [aP]
def cI {α:Type} (k:Int) (l r b:List α):List α:=l++(if k=7 then b++r else if k=8 then aP r b else r++b)
theorem ni {α:Type} {k:Int} {l r b:List α} {x:α}:x ∈ cI k l r b↔x ∈ l∨x ∈ r∨x ∈ b:=by
  unfold cI;split
  · simp [or_comm,or_left_comm]
  · split
    · simp [wH]
    · simp
theorem xf {α β:Type} (f:α→β) (k:Int) (l r b:List α):(cI k l r b).map f=cI k (l.map f) (r.map f) (b.map f):=by
  unfold cI;split
  · simp
  · split
    · simp [zI]
    · simp
def fZ (c:UInt8):Bool:=(97≤c && c≤122) || (65≤c && c≤90) || c==95
def dL (c:UInt8):Bool:=fZ c || (48≤c && c≤57)
def f9 (l:List UInt8):Bool:=l==[97,110,100] || l==[98,114,101,97,107] || l==[100,111] || l==[101,108,115,101] || l==[101,108,115,101,105,102] || l==[101,110,100] || l==[102,97,108,115,101] || l==[102,111,114] || l==[102,117,110,99,116,105,111,110] || l==[103,111,116,111] || l==[105,102] || l==[105,110] || l==[108,111,99,97,108] || l==[110,105,108] || l==[110,111,116] || l==[111,114] || l==[114,101,112,101,97,116] || l==[114,101,116,117,114,110] || l==[116,104,101,110] || l==[116,114,117,101] || l==[117,110,116,105,108] || l==[119,104,105,108,101]
def kD (s:ByteArray):Bool:=f9 s.toList
def cw (s:ByteArray):Bool:=match s.data.toList with
  | []=>false
  | c::r=>decide (s.size≤40) && !kD s && fZ c && (c::r).all dL
structure cu where
  names:List ByteArray
  method:ByteArray
def gm:cu:=⟨[.empty],.empty⟩
def cV:Ex→Option (List ByteArray)
  | .mk k _ _ _ _ s [x,y] _=>if k=7 then some [s] else if k=8 then (if y.kind=5∧cw y.str=true then (cV x).map (·++[y.str]) else none) else none
  | .mk k _ _ _ _ s _ _=>if k=7 then some [s] else none
def qx (l:List ByteArray):ByteArray:=⟨(Lib.join (l.map (·.data.toList)) [46]).toArray⟩
def bK (s:St):cu :=
  if s.kind=2∧s.names.length=1 then ⟨[(s.names.headD default).1],.empty⟩
  else if s.kind=3∧s.left.length=1∧s.right.length=1 then
    match cV (s.left.headD default) with
    | none=>gm
    | some l=>⟨[.empty,qx l],if 1<l.length then ⟨((qx l.dropLast).data.toList++58::(l.getLastD default).data.toList).toArray⟩ else .empty⟩
  else gm
def fl:ByteArray:=⟨#[115,101,108,102]⟩
def m6 (t:cu) (f:Fn):Bool:=t.names.any (fun n=>decide (n=f.name)) || (!t.method.toList.isEmpty && decide (f.name=t.method) && decide (f.params.head?=some fl))
def jI (k:Int):Bool:=(k==9) || (k==10) || (k==6)
def o5 (p q:Int):Bool:=decide (1≤q∧q≤2147483647∧0≤p∧p≤2147483647∧Nat.gcd p.natAbs q.natAbs=1∧1000000000 % q=0)
def bB (x:Ex) (op num str:Bool) (n:Int):Bool :=
  (op || x.op==0) && (num || (x.p==0 && x.q==0)) && (str || x.str.toList.isEmpty) && (decide (n<0) || (x.args.length:Int)==n) && (x.kind==11 || (x.funcs.length:Int)==0)
def jV (x:Ex):Bool:=match x.args with
  | []=>false
  | y::_=>y.kind != 6
def aS (x:Ex) (parent:Int):Bool :=
  if x.kind=1∨x.kind=2∨x.kind=3∨x.kind=6 then bB x false false false 0
  else if x.kind=4 then bB x false true false 0 && o5 x.p x.q
  else if x.kind=5∨x.kind=7 then bB x false false true 0
  else if x.kind=8 then bB x false false false 2 && jV x
  else if x.kind=9 then bB x false false false (-1) && jV x
  else if x.kind=10 then bB x false false true (-1) && jV x
  else if x.kind=11 then bB x false false false 0 && decide (x.funcs.length=1)
  else if x.kind=12 then bB x false false false (-1) && x.args.all (fun y=>y.kind==13 || y.kind==14)
  else if x.kind=13 then bB x false false false 1 && parent==12
  else if x.kind=14 then bB x false false false 2 && parent==12
  else if x.kind=15 then bB x true false false 1 && decide (20≤x.op∧x.op≤23)
  else if x.kind=16 then bB x true false false 2 && decide (1≤x.op∧x.op≤19)
  else if x.kind=17∨x.kind=18 then bB x false false false 2
  else if x.kind=19 then bB x false false false 1 && (match x.args with|y::_=>jI y.kind|[]=>false)
  else false
def gF (x:Ex) (parent:Int) (t:cu):Int :=
  if (if x.kind=5 then 4096 else 40)<x.str.size then 3
  else if x.funcs.any (fun f=>decide (4096<f.name.size) || f.params.any (fun p=>decide (40<p.size))) then 3
  else if decide (x.line<0) || !aS x parent then 4
  else if x.funcs.any (fun f=>decide (f.line<0) || !m6 t f) then 4
  else if (x.kind==7 || x.kind==10) && !cw x.str then 9
  else if x.funcs.any (fun f=>f.params.any (fun p => !cw p)) then 9
  else 0
def cT (n want:Int):Bool:=n==want || want==-1 || (want==-2 && decide (1≤n))
def bo (s:St) (names left right blocks:Int) (label:Bool):Bool :=
  cT s.names.length names && cT s.left.length left && cT s.right.length right && cT s.blocks.length blocks && (label || s.label.toList.isEmpty)
def jO (l:List (ByteArray × Int)):Bool:=l.all (fun x=>x.2==0)
def jE (l:List Ex):Int:=match l with
  | []=>0
  | y::_=>y.kind
def aU (s:St) (last:Bool):Bool :=
  if s.kind=1 then bo s (-2) 0 (-1) 0 false && s.names.all (fun x=>decide (0≤x.2∧x.2≤2))
  else if s.kind=2 then bo s 1 0 1 0 false && jO s.names && jE s.right==11
  else if s.kind=3 then bo s 0 (-2) (-2) 0 false && s.left.all (fun x=>x.kind==7 || x.kind==8)
  else if s.kind=4 then bo s 0 0 1 0 false && (jE s.right==9 || jE s.right==10)
  else if s.kind=5 then bo s 0 0 0 1 false
  else if s.kind=6∨s.kind=7 then bo s 0 0 1 1 false
  else if s.kind=8 then bo s 0 0 (-2) (-1) false && (s.blocks.length==s.right.length || s.blocks.length==s.right.length+1)
  else if s.kind=9 then (bo s 1 0 2 1 false || bo s 1 0 3 1 false) && jO s.names
  else if s.kind=10 then bo s (-2) 0 (-2) 1 false && jO s.names
  else if s.kind=11 then bo s 0 0 (-1) 0 false && last
  else if s.kind=12 then bo s 0 0 0 0 false
  else if s.kind=13∨s.kind=14 then bo s 0 0 0 0 true
  else false
def et (s:St) (last:Bool):Int :=
  if 40<s.label.size then 3
  else if s.names.any (fun x=>decide (40<x.1.size)) then 3
  else if decide (s.line<0) || !aU s last then 4
  else if (s.kind==13 || s.kind==14) && !cw s.label then 9
  else if s.names.any (fun x => !cw x.1) then 9
  else 0
mutual
def ci (t:cu) (parent:Int):Ex→Int
  | .mk k o l p q s args funcs=>alt (gF (.mk k o l p q s args funcs) parent t) (alt (aB (lx gm k args)) (aB (oC funcs)))
def lx (t:cu) (parent:Int):List Ex→List Int
  | []=>[]
  | x::r=>ci t parent x::lx t parent r
def iM:Fn→Int
  | .mk _ _ _ b _=>aB (bN b)
def oC:List Fn→List Int
  | []=>[]
  | f::r=>iM f::oC r
def eF (last:Bool):St→Int
  | .mk k l ns left right blocks lab =>
    alt (et (.mk k l ns left right blocks lab) last)
      (aB (cI k (lx (bK (.mk k l ns left right blocks lab)) 0 left) (lx (bK (.mk k l ns left right blocks lab)) 0 right) (oB blocks)))
def bN:List St→List Int
  | []=>[]
  | s::r=>eF r.isEmpty s::bN r
def oB:List (List St)→List Int
  | []=>[]
  | b::r=>aB (bN b)::oB r
end
theorem uP (t:cu) (k:Int) (l:List Ex):lx t k l=l.map (ci t k):=by induction l with|nil=>rfl|cons x r ih=>simp [lx,ih]
theorem CB (l:List Fn):oC l=l.map iM:=by induction l with|nil=>rfl|cons x r ih=>simp [oC,ih]
theorem CA (l:List (List St)):oB l=l.map fun b=>aB (bN b):=by induction l with|nil=>rfl|cons x r ih=>simp [oB,ih]
theorem uO (t:cu) (k:Int) (x:Ex):ci t k x=alt (gF x k t) (alt (aB (x.args.map (ci gm x.kind))) (aB (x.funcs.map iM))):=by
  cases x;simp only [ci,uP,CB,Ex.kind,Ex.args,Ex.funcs]
theorem uK (f:Fn):iM f=aB (bN f.body):=by cases f;simp only [iM,Fn.body]
theorem uL (last:Bool) (s:St):eF last s=alt (et s last) (aB (cI s.kind (s.left.map (ci (bK s) 0)) (s.right.map (ci (bK s) 0)) (s.blocks.map fun b=>aB (bN b)))):=by
  cases s;simp only [eF,uP,CA,St.kind,St.left,St.right,St.blocks]
mutual
def Ex.wz:Ex→Nat | .mk _ _ _ _ _ s a f=>1+s.size+Ex.wzs a+Fn.wzs f
def Ex.wzs:List Ex→Nat|[]=>0|x::r=>x.wz+Ex.wzs r
def Fn.wz:Fn→Nat | .mk _ _ _ b _=>1+St.wzs b
def Fn.wzs:List Fn→Nat|[]=>0|x::r=>x.wz+Fn.wzs r
def St.wz:St→Nat | .mk _ _ _ l r b _=>1+Ex.wzs l+Ex.wzs r+St.wzss b
def St.wzs:List St→Nat|[]=>0|x::r=>x.wz+St.wzs r
def St.wzss:List (List St)→Nat|[]=>0|x::r=>1+St.wzs x+St.wzss r
end
theorem Ex.wz_mem {x:Ex} {l:List Ex} (h:x ∈ l):x.wz≤Ex.wzs l:=by
  induction l with
  | nil=>cases h
  | cons y r ih =>
    simp only [Ex.wzs];rcases List.mem_cons.1 h with rfl|h
    · omega
    · have:=ih h;omega
theorem Fn.wz_mem {x:Fn} {l:List Fn} (h:x ∈ l):x.wz≤Fn.wzs l:=by
  induction l with
  | nil=>cases h
  | cons y r ih =>
    simp only [Fn.wzs];rcases List.mem_cons.1 h with rfl|h
    · omega
    · have:=ih h;omega
theorem St.wz_mem {x:St} {l:List St} (h:x ∈ l):x.wz≤St.wzs l:=by
  induction l with
  | nil=>cases h
  | cons y r ih =>
    simp only [St.wzs];rcases List.mem_cons.1 h with rfl|h
    · omega
    · have:=ih h;omega
theorem St.wzs_mem {x:List St} {l:List (List St)} (h:x ∈ l):St.wzs x+1≤St.wzss l:=by
  induction l with
  | nil=>cases h
  | cons y r ih =>
    simp only [St.wzss];rcases List.mem_cons.1 h with rfl|h
    · omega
    · have:=ih h;omega
theorem Ex.wz_eq (x:Ex):x.wz=1+x.str.size+Ex.wzs x.args+Fn.wzs x.funcs:=by cases x;simp [Ex.wz,Ex.args,Ex.funcs,Ex.str]
theorem Fn.wz_eq (x:Fn):x.wz=1+St.wzs x.body:=by cases x;simp [Fn.wz,Fn.body]
theorem St.wz_eq (x:St):x.wz=1+Ex.wzs x.left+Ex.wzs x.right+St.wzss x.blocks:=by cases x;simp [St.wz,St.left,St.right,St.blocks]
theorem Ex.argsW {x y:Ex} (h:y ∈ x.args):y.wz<x.wz:=by have:=Ex.wz_mem h;rw [x.wz_eq];omega
theorem Ex.bodyW {x:Ex} {y:Fn} (h:y ∈ x.funcs):St.wzs y.body+1<x.wz:=by have:=Fn.wz_mem h;rw [y.wz_eq] at this;rw [x.wz_eq];omega
theorem St.leftW {s:St} {y:Ex} (h:y ∈ s.left):y.wz<s.wz:=by have:=Ex.wz_mem h;rw [s.wz_eq];omega
theorem St.rightW {s:St} {y:Ex} (h:y ∈ s.right):y.wz<s.wz:=by have:=Ex.wz_mem h;rw [s.wz_eq];omega
theorem St.blocksW {s:St} {b:List St} (h:b ∈ s.blocks):St.wzs b+1<s.wz:=by have:=St.wzs_mem h;rw [s.wz_eq];omega
mutual
def dE:Ex→Nat
  | .mk _ _ _ _ _ _ a f=>1+max (cG a) (dD f)
def cG:List Ex→Nat
  | []=>0
  | x::r=>max (dE x) (cG r)
def dF:Fn→Nat
  | .mk _ _ _ b _=>1+bM b
def dD:List Fn→Nat
  | []=>0
  | x::r=>max (dF x) (dD r)
def dS:St→Nat
  | .mk _ _ _ l r b _=>max (cG l) (max (cG r) (iK b))
def bM:List St→Nat
  | []=>0
  | x::r=>max (dS x) (bM r)
def iK:List (List St)→Nat
  | []=>0
  | x::r=>max (1+bM x) (iK r)
end
def eU (w:World) (v:Value) (p:Int→Bool):Prop:=∃ (f:Nat) (cap:Array Value),v=.func (.func f) #[] cap∧(∀ args w',(callFunc f args).run Tryz.prog w'=.ok (.enter f args) w')∧∀ (c:Int) (W:World),0≤c→c≤255→Below w.heap.size w W→Calls Tryz.prog f (#[.int .u8 c]++cap) W fun e W'=>e=.returned (.bool (p c))∧Below W.heap.size W W'
theorem eU.below {w w':World} {v:Value} {p:Int→Bool} (h:eU w v p) (hb:Below w.heap.size w w'):eU w' v p:=by
  obtain ⟨f,cap,h1,h2,h3⟩:=h;exact ⟨f,cap,h1,h2,fun c W a b hW=>h3 c W a b (hb.trans (hW.mono hb.size))⟩
theorem Cr:∀ args w,(callFunc 178 args).run Tryz.prog w=.ok (.enter 178 args) w:=enters_of Tryz.func178 (by kernel_rfl) rfl
theorem Cy:∀ args w,(callFunc 179 args).run Tryz.prog w=.ok (.enter 179 args) w:=enters_of Tryz.func179 (by kernel_rfl) rfl
theorem Cv:∀ args w,(callFunc 175 args).run Tryz.prog w=.ok (.enter 175 args) w:=enters_of Tryz.func175 (by kernel_rfl) rfl
def gB (lo hi:Int) (c:Int):Bool:=decide (lo≤c) && decide (c≤hi)
theorem AQ (c lo hi:Int) (bl bh:Nat) (w:World) (hl:w.cell? ⟨bl,0,none⟩=some (.int .u8 lo)) (hh:w.cell? ⟨bh,0,none⟩=some (.int .u8 hi)) :
    Calls Tryz.prog 178 #[.int .u8 c,.pointer (some ⟨bl,0,none⟩),.pointer (some ⟨bh,0,none⟩)] w fun e w'=>e=.returned (.bool (gB lo hi c))∧w'=w:=by
  have hm:gB lo hi c=(decide (lo≤c) && decide (c≤hi)):=rfl;have HM:=hI hm;clear hm;cases h1:decide (lo≤c) <;> cases h2:decide (c≤hi)
  all_goals
    go_enter Tryz.func178,Tryz.ntmps178
    go_wp2_with fail
    go_ret;exact ⟨by rw [HM.out,h1,h2];rfl,rfl⟩
theorem qe (lo hi:Int) (w:World) :
    Calls Tryz.prog 150 #[.int .u8 lo,.int .u8 hi] w fun e w'=>∃ v,e=.returned v∧eU w' v (gB lo hi)∧Below w.heap.size w w':=by
  go_enter Tryz.func150,Tryz.ntmps150
  go_wp2_with fail
  go_ret;refine ⟨_,rfl,⟨_,_,rfl,Cr,fun c W a b hW=>?_⟩,bw⟩;refine (AQ c lo hi _ _ W ?_ ?_).mono fun e W' h=>⟨h.1,by rw [h.2];exact Below.refl _ _⟩
  · rw [hW.cell (by simp;omega)];simp
  · rw [hW.cell (by simp)];simp
theorem qw (w:World) :
    Calls Tryz.prog 120 #[] w fun e w'=>∃ v,e=.returned v∧eU w' v (gB 48 57)∧Below w.heap.size w w':=by
  go_enter Tryz.func120,Tryz.ntmps120
  go_wp2_with (go_at_call 150;go_loud (refine (qe _ _ _).mono ?_;rintro e w1 ⟨v,rfl,hv,hb⟩))
  go_ret;exact ⟨_,rfl,hv,bw⟩
def o6 (s:ByteArray) (c:Int):Bool:=decide (0≤Lib.indexByte s.data.toList c.toNat.toUInt8)
theorem GG (s:ByteArray) (c:Int) (b:Nat) (w:World) (hs:w.cell? ⟨b,0,none⟩=some (.string s)) :
    Calls Tryz.prog 179 #[.int .u8 c,.pointer (some ⟨b,0,none⟩)] w fun e w'=>e=.returned (.bool (o6 s c))∧w'=w:=by
  unfold o6;obtain ⟨n,hn⟩:∃ n,n=Lib.indexByte s.data.toList c.toNat.toUInt8:=⟨_,rfl⟩
  have HC:=hI (Tryz.strings_IndexByte s c);rw [←hn] at HC ⊢;clear hn
  go_enter Tryz.func179,Tryz.ntmps179
  go_wp2_with (go_at_call 180;go_loud (refine (HC.out _).mono ?_;rintro e w1 ⟨rfl,rfl⟩))
  go_ret;exact ⟨rfl,rfl⟩
theorem GI (s:ByteArray) (w:World) :
    Calls Tryz.prog 151 #[.string s] w fun e w'=>∃ v,e=.returned v∧eU w' v (o6 s)∧Below w.heap.size w w':=by
  go_enter Tryz.func151,Tryz.ntmps151
  go_wp2_with fail
  go_ret;refine ⟨_,rfl,⟨_,_,rfl,Cy,fun c W a b hW=>?_⟩,bw⟩;refine (GG s c _ W ?_).mono fun e W' h=>⟨h.1,by rw [h.2];exact Below.refl _ _⟩;rw [hW.cell (by simp)];simp
theorem Cc {w0:World} {v:Value} {p:Int→Bool} (hv:eU w0 v p) (c:Int) (h0:0≤c) (h1:c≤255) (b:Nat) (w:World) (hb:Below w0.heap.size w0 w) (hc:w.cell? ⟨b,0,none⟩=some (.int .u8 c)) :
    Calls Tryz.prog 177 #[v,.pointer (some ⟨b,0,none⟩)] w fun e w'=>e=.returned (.bool (p c))∧Below w.heap.size w w':=by
  obtain ⟨f,cap,rfl,ef,hf⟩:=hv;have HF:=hI hf;clear hf;have HB:=hI hb;clear hb
  go_enter Tryz.func177,Tryz.ntmps177
  go_wp2_with ((with_reducible refine (HF.out c _ h0 h1 HB.out).mono ?_);rintro e w1 ⟨rfl,hb1⟩)
  go_ret;exact ⟨rfl,bw⟩
theorem Cw:∀ args w,(callFunc 177 args).run Tryz.prog w=.ok (.enter 177 args) w:=enters_of Tryz.func177 (by kernel_rfl) rfl
def mh (w:World) (p:Int→Bool) (cs:List Value):Prop:=∃ v,cs=[v]∧eU w v p
set_option maxRecDepth 100000 in
theorem Eh (c:Int) (h0:0≤c) (h1c:c≤255) (bc:Nat) (l:List (Int→Bool)) (la:Option Addr) (cap:Nat) (w0 w:World) (hcap:l.length≤cap) (hmx:cap≤MX) (hrow:aj ak w0 1 (mh w0) l la) (hb0:Below w0.heap.size w0 w) (hbc:bc<w.heap.size) (hc:w.cell? ⟨bc,0,none⟩=some (.int .u8 c)) :
    Calls Tryz.prog 194 #[.slice la l.length cap,.func (.func 177) #[] #[.pointer (some ⟨bc,0,none⟩)]] w fun e w'=>e=.returned (.int .i64 (iS (fun p=>p c) l))∧Below w.heap.size w w':=by
  unfold MX at hmx;have HB0:=hI hb0;clear hb0;have HCC:=hI hc;clear hc;have ent:=Cw
  go_enter Tryz.func194,Tryz.ntmps194
  go_wp2_with fail
  go_loopg [5,8] l.length (fun gk u v wr=>∃ k:Nat,gk+k=l.length∧v=.int .i64 k∧Below w.heap.size w wr∧dk (fun p=>p c) l k)
  case atStart=>exact ⟨0,by omega,rfl,Below.refl _ _,fun j x hj=>absurd hj (by omega)⟩
  case round =>
    obtain ⟨k,hk,rfl,hbw,hno⟩:=hrel;have HB:=hI hbw;clear hbw;have HN:=hI hno;clear hno;have HK:=hI hk;by_cases hlt:k<l.length
    · obtain ⟨x,hx⟩:∃ x,l[k]?=some x:=⟨_,KP hlt⟩
      obtain ⟨b,off,h1,h2⟩:=hrow;obtain ⟨rfl,-,hlb⟩:=h1 (by rintro rfl;simp at hlt);obtain ⟨cs,hr,v,rfl,hat⟩:=h2 k x hx;have hb2:Below w0.heap.size w0 wr:=HB0.out.trans (HB.out.mono HB0.out.size);have hr':=(aq hb2:af ak w0 wr).range trivial hlb hr;have c0:=hr' 0 _ rfl;simp only [Nat.add_zero,Nat.mul_one] at c0;have hcw:wr.cell? ⟨bc,0,none⟩=some (.int .u8 c):=by rw [HB.out.cell (by simpa using hbc)];exact HCC.out
      have HC:=hI (Cc (hat.below hb2) c h0 h1c bc wr (Below.refl _ _) hcw);have HX:=hI hx;clear hx;clear hr hr' h1 h2 hat hk hcw hb2;cases hp:x c
      · have HP:=hI hp;clear hp
        go_wp2_with ((with_reducible refine HC.out.mono ?_);(rw [HP.out];rintro e w1 ⟨rfl,hb⟩;have HB1:=hI hb;clear hb))
        go_roundg (gk - 1)
        case rel=>exact ⟨k+1,by have:=HK.out;omega,by go_num,thru HB1.out HB.out,HN.out.succ HX.out HP.out⟩
        case measure=>have:=HK.out;omega
      · have HP:=hI hp;clear hp
        go_wp2_with ((with_reducible refine HC.out.mono ?_);(rw [HP.out];rintro e w1 ⟨rfl,hb⟩;have HB1:=hI hb;clear hb))
        go_ret;exact ⟨by rw [qW HN.out HX.out HP.out];rfl,thru HB1.out HB.out⟩
    · have HE:k=l.length:=by omega
      have HE':=hI HE;clear HE;clear hk
      go_wp2_with fail
      go_ret;exact ⟨by rw [qV (by have:=HE'.out;subst this;exact HN.out)];rfl,HB.out⟩
theorem BN (c:Int) (h0:0≤c) (h1c:c≤255) (bc:Nat) (l:List (Int→Bool)) (la:Option Addr) (cap:Nat) (w0 w:World) (hcap:l.length≤cap) (hmx:cap≤MX) (hrow:aj ak w0 1 (mh w0) l la) (hb0:Below w0.heap.size w0 w) (hbc:bc<w.heap.size) (hc:w.cell? ⟨bc,0,none⟩=some (.int .u8 c)) :
    Calls Tryz.prog 176 #[.slice la l.length cap,.func (.func 177) #[] #[.pointer (some ⟨bc,0,none⟩)]] w fun e w'=>e=.returned (.bool (l.any fun p=>p c))∧Below w.heap.size w w':=by
  have HC:=hI (Eh c h0 h1c bc l la cap w0 w hcap hmx hrow hb0 hbc hc);have HA:=hI (qU (P:=fun p:Int→Bool=>p c) (l:=l));clear hrow hb0 hc
  go_enter Tryz.func176,Tryz.ntmps176
  go_wp2_with (go_at_call 194;go_loud (refine HC.out.mono ?_;rintro e w1 ⟨rfl,hb⟩))
  go_ret;exact ⟨by rw [←HA.out];rfl,hb⟩
theorem Cd (c:Int) (h0:0≤c) (h1c:c≤255) (bl:Nat) (l:List (Int→Bool)) (la:Option Addr) (cap:Nat) (w0 w:World) (hcap:l.length≤cap) (hmx:cap≤MX) (hrow:aj ak w0 1 (mh w0) l la) (hb0:Below w0.heap.size w0 w) (hl:w.cell? ⟨bl,0,none⟩=some (.slice la l.length cap)) (hbl:bl<w.heap.size) :
    Calls Tryz.prog 175 #[.int .u8 c,.pointer (some ⟨bl,0,none⟩)] w fun e w'=>e=.returned (.bool (l.any fun p=>p c))∧Below w.heap.size w w':=by
  have HB0:=hI hb0;clear hb0
  go_enter Tryz.func175,Tryz.ntmps175
  go_wp2_with (go_at_call 176;go_loud (refine (BN c h0 h1c w.heap.size l la cap w0 _ hcap hmx hrow (HB0.out.trans (((Below.refl _ _).alloc (KU _) _).mono HB0.out.size)) (by simp) (by simp)).mono ?_;rintro e w1 ⟨rfl,hb⟩))
  go_ret;exact ⟨rfl,bw⟩
theorem uA (l:List (Int→Bool)) (la:Option Addr) (cap:Nat) (w:World) (hcap:l.length≤cap) (hmx:cap≤MX) (hrow:aj ak w 1 (mh w) l la) :
    Calls Tryz.prog 149 #[.slice la l.length cap] w fun e w'=>∃ v,e=.returned v∧eU w' v (fun c=>l.any fun p=>p c)∧Below w.heap.size w w':=by
  have HR:=hI hrow;clear hrow
  go_enter Tryz.func149,Tryz.ntmps149
  go_wp2_with fail
  go_ret;refine ⟨_,rfl,⟨_,_,rfl,Cv,fun c W a b hW=>?_⟩,bw⟩;have hs:=hW.size;simp at hs;exact Cd c a b _ l la cap w W hcap hmx HR.out (((Below.refl _ _).alloc (KU _) _).trans (hW.mono (by simp))) (by rw [hW.cell (by simp)];simp) (by omega)
theorem xJ {α:Type} {w:World} {R:α→List Value→Prop} {l:List α} {vs:Array Value} {T:TypeId} (hl:l.length=vs.size) (h:∀ (i:Nat) (x:α) (v:Value),l[i]?=some x→vs[i]?=some v→R x [v]) :
    aj ak (w.alloc (.cells vs T)) 1 R l (some ⟨w.heap.size,0,none⟩):=by
  refine ⟨w.heap.size,0,fun _=>⟨rfl,trivial,by simp⟩,fun i x hx=>?_⟩;have hi:i<l.length:=(KQ hx).1;have hv:vs[i]?=some (vs[i]'(by omega)):=Array.getElem?_eq_getElem (by omega);refine ⟨[vs[i]'(by omega)],fun j u hu=>?_,h i x _ hx hv⟩
  have hj:j=0:=by
    have:=(KQ hu).1;simp at this;exact this
  subst hj;simp at hu;have hb:=heap_alloc_new w (.cells vs T);rw [show (0+i*1+0)=i from by omega,cell_of_row _ _ i vs T (0,0) hb,hv,hu]
def oI:List (Int→Bool):=[gB 97 122,gB 65 90,o6 ⟨#[95]⟩]
def lD (c:Int):Bool:=oI.any fun p=>p c
def pJ:List (Int→Bool):=[lD,gB 48 57]
def kN (c:Int):Bool:=pJ.any fun p=>p c
theorem lE (w:World) :
    Calls Tryz.prog 118 #[] w fun e w'=>∃ v,e=.returned v∧eU w' v lD∧Below w.heap.size w w':=by
  have tok1:True:=trivial;have tok2:True:=trivial
  go_enter Tryz.func118,Tryz.ntmps118
  go_wp2_with (first|(go_at_call 150;have _t:=tok1;(with_reducible refine (qe _ _ _).mono ?_);rintro e w1 ⟨v,rfl,hv1,hb1⟩;have HV1:=hI hv1;obtain ⟨f1,c1,rfl,-,-⟩:=hv1;clear tok1 _t)|(go_at_call 150;have _t:=tok2;(with_reducible refine (qe _ _ _).mono ?_);rintro e w2 ⟨v,rfl,hv2,hb2⟩;have HV2:=hI hv2;obtain ⟨f2,c2,rfl,-,-⟩:=hv2;clear tok2 _t)|(go_at_call 151;(with_reducible refine (GI _ _).mono ?_);rintro e w3 ⟨v3,rfl,hv3,hb3⟩;have HV3:=hI hv3;obtain ⟨f3,c3,rfl,-,-⟩:=hv3))
  have hr:aj ak (w3.alloc (.cells #[.func (.func f1) #[] c1,.func (.func f2) #[] c2,.func (.func f3) #[] c3] 184)) 1 (mh (w3.alloc (.cells #[.func (.func f1) #[] c1,.func (.func f2) #[] c2,.func (.func f3) #[] c3] 184))) oI (some ⟨w3.heap.size,0,none⟩):=by
    refine xJ rfl fun i x v h1 h2=>⟨v,rfl,?_⟩;have ha:Below w3.heap.size w3 (w3.alloc (.cells #[.func (.func f1) #[] c1,.func (.func f2) #[] c2,.func (.func f3) #[] c3] 184)):=aH (Below.refl _ _) _
    match i,h1,h2 with
    | 0,h1,h2=>cases h1;cases h2;exact ((HV1.out.below hb2).below hb3).below ha
    | 1,h1,h2=>cases h1;cases h2;exact (HV2.out.below hb3).below ha
    | 2,h1,h2=>cases h1;cases h2;exact HV3.out.below ha
    | j+3,h1,h2=>simp [oI] at h1
  have HR:=hI hr;clear hr;have hb:Below w.heap.size w w3:=thru hb3 (thru hb2 hb1)
  go_wp2_with (go_at_call 149;go_loud (refine (uA oI _ 3 _ (KU _) (by unfold MX;decide) HR.out).mono ?_;rintro e w4 ⟨v,rfl,hv,hb4⟩))
  go_ret;exact ⟨_,rfl,hv,bw⟩
theorem pI (w:World) :
    Calls Tryz.prog 137 #[] w fun e w'=>∃ v,e=.returned v∧eU w' v kN∧Below w.heap.size w w':=by
  go_enter Tryz.func137,Tryz.ntmps137
  go_wp2_with (first|(go_at_call 118;(with_reducible refine (lE _).mono ?_);rintro e w1 ⟨v,rfl,hv1,hb1⟩;have HV1:=hI hv1;obtain ⟨f1,c1,rfl,-,-⟩:=hv1)|(go_at_call 120;(with_reducible refine (qw _).mono ?_);rintro e w3 ⟨v3,rfl,hv3,hb3⟩;have HV3:=hI hv3;obtain ⟨f3,c3,rfl,-,-⟩:=hv3))
  have hr:aj ak (w3.alloc (.cells #[.func (.func f1) #[] c1,.func (.func f3) #[] c3] 184)) 1 (mh (w3.alloc (.cells #[.func (.func f1) #[] c1,.func (.func f3) #[] c3] 184))) pJ (some ⟨w3.heap.size,0,none⟩):=by
    refine xJ rfl fun i x v h1 h2=>⟨v,rfl,?_⟩;have ha:Below w3.heap.size w3 (w3.alloc (.cells #[.func (.func f1) #[] c1,.func (.func f3) #[] c3] 184)):=aH (Below.refl _ _) _
    match i,h1,h2 with
    | 0,h1,h2=>cases h1;cases h2;exact (HV1.out.below hb3).below ha
    | 1,h1,h2=>cases h1;cases h2;exact HV3.out.below ha
    | j+2,h1,h2=>simp [pJ] at h1
  have HR:=hI hr;clear hr;have hb:Below w.heap.size w w3:=thru hb3 hb1
  go_wp2_with (go_at_call 149;go_loud (refine (uA pJ _ 2 _ (KU _) (by unfold MX;decide) HR.out).mono ?_;rintro e w4 ⟨v,rfl,hv,hb4⟩))
  go_ret;exact ⟨_,rfl,hv,bw⟩
theorem oM (s:ByteArray) (w:World) :
    Calls Tryz.prog 136 #[.string s] w fun e w'=>e=.returned (.bool (kD s))∧w'=w:=by
  unfold kD;have hk:f9 s.toList=f9 s.toList:=rfl;unfold f9 at hk;obtain ⟨b,hb⟩:∃ b,b=f9 s.toList:=⟨_,rfl⟩
  rw [←hb];have HB:=hI hb;clear hb hk
  go_enter Tryz.func136,Tryz.ntmps136
  go_wp2_with fail
  all_goals
    go_ret;refine ⟨?_,rfl⟩;have hb:=HB.out;unfold f9 at hb;clear HB;simp_all
theorem uM {s:St} {b:Bool}:eF b s=0↔et s b=0∧(∀ y ∈ s.left,ci (bK s) 0 y=0)∧(∀ y ∈ s.right,ci (bK s) 0 y=0)∧∀ l ∈ s.blocks,aB (bN l)=0:=by
  rw [uL,lg,m5];constructor
  · rintro ⟨h,h2⟩;exact ⟨h,fun y hy=>h2 _ (ni.2 (.inl (List.mem_map_of_mem hy))),fun y hy=>h2 _ (ni.2 (.inr (.inl (List.mem_map_of_mem hy)))),fun y hy=>h2 _ (ni.2 (.inr (.inr (List.mem_map_of_mem (f:=fun b=>aB (bN b)) hy))))⟩
  · rintro ⟨h,h1,h2,h3⟩;refine ⟨h,fun e he=>?_⟩;rcases ni.1 he with he|he|he
    · obtain ⟨y,hy,rfl⟩:=List.mem_map.1 he;exact h1 y hy
    · obtain ⟨y,hy,rfl⟩:=List.mem_map.1 he;exact h2 y hy
    · obtain ⟨y,hy,rfl⟩:=List.mem_map.1 he;exact h3 y hy
def p4 (cv:List St→Int):Prop:=∀ (b:List St) (a:Option Addr) (c:Nat) (w:World),St.wzs b≤1073741824→b.length≤c→c≤MX→b.length*128≤LM→St.Ats ak w b a →
    Calls Tryz.prog 30 #[.slice a b.length c] w fun e w'=>e=.returned (.int .i64 (cv b))∧Below w.heap.size w w'
