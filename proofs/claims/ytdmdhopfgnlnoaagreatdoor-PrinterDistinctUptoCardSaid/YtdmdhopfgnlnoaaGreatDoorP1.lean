/- The canonical text of a tree, as plain data. -/
import Derived.Test.YtdmdhopfgnlnoaaGreatDoorTZ
import Derived.Test.YtdmdhopfgnlnoaaGreatDoorC1
import Derived.Lib.ItoaNum
import Derived.Test.YtdmdhopfgnlnoaaGreatDoorC8
import Derived.Lib.Builder
import Derived.Lib.AppendStr
import Derived.Lib.UnsafeStr
import Derived.Test.YtdmdhopfgnlnoaaGreatDoorCF
import Derived.Laws.Entries
import Derived.Laws.Externs
import Derived.Maps.Own
import Derived.Maps.Views
namespace Go.Proofs.YtdmdhopfgnlnoaaGreatDoor
open Go.RowKit
set_option linter.unusedVariables false
set_option linter.unusedSimpArgs false
def yn (o:Int):Int :=
  if o=1∨o=2 then 9 else if o=3∨o=4∨o=5∨o=6 then 10 else if o=7 then 12 else if o=8 then 8 else if o=9 then 6 else if o=10 then 4 else if o=11 then 5
  else if o=12∨o=13 then 7 else if 14≤o∧o≤19 then 3 else 0
def Qb (x:Ex):Int:=if x.kind=18 then 1 else if x.kind=17 then 2 else if x.kind=16 then yn x.op else if x.kind=15 then 11 else 13
def opsL:List Bs:=[[],[43],[45],[42],[47],[47,47],[37],[94],[46,46],[38],[124],[126],[60,60],[62,62],[61,61],[126,61],[60],[60,61],[62],[62,61],[45],[110,111,116,32],[35],[126]]
def qj (o:Int):Bs:=opsL[o.toNat]?.getD []
def Qf (x:Ex):Bool:=(x.kind==7) || (x.kind==8) || (x.kind==9) || (x.kind==10) || (x.kind==19)
def zj (x a:Ex):Bool:=decide (Qb a<Qb x) || (Qb a==Qb x && (Qb x==8 || Qb x==12))
def zN (x a:Ex):Bool:=decide (Qb a<Qb x) || (Qb a==Qb x && Qb x != 8 && Qb x != 12)
def Qi:Ex→Bool
  | .mk k o l p q s (a::r) f =>
    if k=15 then o==20
    else if k=16∨k=17∨k=18 then !zj (.mk k o l p q s (a::r) f) a && Qi a
    else if k=8∨k=9∨k=10 then Qf a && Qi a
    else false
  | .mk k o _ _ _ _ [] _=>k==15 && o==20
def ZF:Ex→Bool
  | .mk k _ _ _ _ _ (a::_) _=>if k=8∨k=9∨k=10 then !Qf a || ZF a else k==19
  | .mk k _ _ _ _ _ [] _=>k==19
def Qg (q:Int):Nat:=((List.range 10).find? fun d=>decide ((10 ^ d:Nat) % q=0)).getD 9
def VA (n:Nat) (l:Bs):Bs:=List.replicate (n - l.length) 48++l
def qG (p q:Int):Bs :=
  let d:=Qg q
  let s:=Lib.itoa (p*((10 ^ d:Nat) / q))
  if d=0 then s else (VA (d+1) s).take ((VA (d+1) s).length - d)++46::(VA (d+1) s).drop ((VA (d+1) s).length - d)
def Ve (b:Bool) (t:Bs):Bs:=if b=true then 40::t++[41] else t
def Zh (l:List Bs):Bs:=Lib.join l [44,32]
def QH (n:Nat):Bs:=(List.replicate n [(32:UInt8),32]).flatten
def endT:Bs:=[101,110,100]
def QT (n:Nat) (f:Fn) (skip:Nat) (body:Bs):Bs :=
  40::Zh ((f.params.drop skip).map Zg++if f.vararg=true then [[46,46,46]] else [])++[41,10]++body++QH n++endT
def zt (x:Ex):Bool:=x.kind==5 && ZG x.str
def qX (before:Bs) (k:Ex) (t:Bs):Bs:=if zt k=true then before++Zg k.str else 91::t++[93]
def vL (x:Ex) (ts:List Bs):Bs :=
  match x.args,ts with
  | a::ar,ta::tr=>Ve (!Qf a) ta ++
    (if x.kind=8 then (match ar,tr with|b::_,tb::_=>qX [46] b tb|_,_=>[])
     else (if x.kind=10 then 58::Zg x.str else [])++40::Zh tr++[41])
  | _,_=>[]
def VB (x:Ex):Bs:=if x.kind=17 then [97,110,100] else if x.kind=16 then qj x.op else [111,114]
def qH (x:Ex) (ts:List Bs):Bs :=
  match x.args,ts with
  | [a,b],[ta,tb]=>Ve (zj x a) ta++32::VB x++32::Ve (zN x b) tb
  | _,_=>[]
def Qj (n:Nat) (x:Ex) (ts bs:List Bs):Bs :=
  if x.kind=1 then [110,105,108] else if x.kind=2 then [116,114,117,101] else if x.kind=3 then [102,97,108,115,101]
  else if x.kind=6 then [46,46,46] else if x.kind=4 then qG x.p x.q else if x.kind=5 then Vv x.str else if x.kind=7 then Zg x.str
  else if x.kind=8∨x.kind=9∨x.kind=10 then vL x ts
  else if x.kind=11 then (match x.funcs,bs with|f::_,b::_=>[102,117,110,99,116,105,111,110]++QT n f 0 b|_,_=>[])
  else if x.kind=12 then 123::Zh ts++[125]
  else if x.kind=13 then ts.headD []
  else if x.kind=14 then (match x.args,ts with|[a,_],[ta,tb]=>qX [] a ta++[32,61,32]++tb|_,_=>[])
  else if x.kind=15 then (match x.args,ts with|a::_,ta::_=>qj x.op++Ve (decide (Qb a<11) || (x.op==20 && Qi a)) ta|_,_=>[])
  else if x.kind=19 then Ve true (ts.headD [])
  else qH x ts
def Vb (l:List (ByteArray × Int)):Bs:=Zh (l.map fun x=>Zg x.1++if x.2=1 then [32,60,99,111,110,115,116,62] else if x.2=2 then [32,60,99,108,111,115,101,62] else [])
def vI (n:Nat) (s:St) (tl tr:List Bs) (br:List (List Bs)):Bs :=
  match s.right,br with
  | [x],[b::_]=>(match x.funcs with
    | f::_=>if x.kind=11∧(Zg f.name).isEmpty=false then [102,117,110,99,116,105,111,110,32]++Zg f.name++QT n f (if QK f.name=true then 1 else 0) b
      else (if ZF (s.left.headD default)=true then [59] else [])++Zh tl++[32,61,32]++Zh tr
    | []=>(if ZF (s.left.headD default)=true then [59] else [])++Zh tl++[32,61,32]++Zh tr)
  | _,_=>(if ZF (s.left.headD default)=true then [59] else [])++Zh tl++[32,61,32]++Zh tr
def Vg (n:Nat) (i:Nat):List Bs→List Bs→Bs
  | c::cs,b::bs=>(if i=0 then [105,102,32] else [101,108,115,101,105,102,32])++c++[32,116,104,101,110,10]++b++QH n++Vg n (i+1) cs bs
  | [],b::_=>[101,108,115,101,10]++b++QH n
  | _,[]=>[]
def QC (n:Nat) (b:Bs) (word:Bs):Bs:=10::b++QH n++word
def Qy (n:Nat) (s:St) (tl tr:List Bs) (br:List (List Bs)) (tb:List Bs):Bs :=
  if s.kind=5 then [100,111]++QC n (tb.headD []) endT
  else if s.kind=6 then [119,104,105,108,101,32]++tr.headD []++[32,100,111]++QC n (tb.headD []) endT
  else if s.kind=7 then [114,101,112,101,97,116]++QC n (tb.headD []) [117,110,116,105,108,32]++tr.headD []
  else if s.kind=8 then Vg n 0 tr tb++endT
  else if s.kind=9 then [102,111,114,32]++Vb s.names++[32,61,32]++Zh tr++[32,100,111]++QC n (tb.headD []) endT
  else if s.kind=10 then [102,111,114,32]++Vb s.names++[32,105,110,32]++Zh tr++[32,100,111]++QC n (tb.headD []) endT
  else if s.kind=1 then [108,111,99,97,108,32]++Vb s.names++if tr.isEmpty=true then [] else [32,61,32]++Zh tr
  else if s.kind=2 then (match s.right,br with
    | x::_,(b::_)::_=>(match x.funcs with
      | f::_=>[108,111,99,97,108,32,102,117,110,99,116,105,111,110,32]++Zg (s.names.headD default).1++QT n f 0 b
      | []=>[])
    | _,_=>[])
  else if s.kind=3 then vI n s tl tr br
  else if s.kind=4 then (if ZF (s.right.headD default)=true then [59] else [])++tr.headD []
  else if s.kind=11 then [114,101,116,117,114,110]++if tr.isEmpty=true then [] else 32::Zh tr
  else if s.kind=12 then [98,114,101,97,107]
  else if s.kind=13 then [103,111,116,111,32]++Zg s.label
  else if s.kind=14 then [58,58]++Zg s.label++[58,58]
  else []
mutual
def tE (n:Nat):Ex→Bs × List Bs
  | .mk k o l p q s args funcs=>(Qj n (.mk k o l p q s args funcs) ((tEs n args).map (·.1)) (tFs n funcs),tFs n funcs)
def tEs (n:Nat):List Ex→List (Bs × List Bs)
  | []=>[]
  | x::r=>tE n x::tEs n r
def tFs (n:Nat):List Fn→List Bs
  | []=>[]
  | f::r=>tF n f::tFs n r
def tF (n:Nat):Fn→Bs
  | .mk _ _ _ b _=>Qe (n+1) b
def tS (n:Nat):St→Bs
  | .mk k l ns left right blocks lab=>Qy n (.mk k l ns left right blocks lab) ((tEs n left).map (·.1)) ((tEs n right).map (·.1)) ((tEs n right).map (·.2)) (tBs n blocks)
def Qe (n:Nat):List St→Bs
  | []=>[]
  | s::r=>QH n++tS n s++10::Qe n r
def tBs (n:Nat):List (List St)→List Bs
  | []=>[]
  | b::r=>Qe (n+1) b::tBs n r
end
theorem tEs_map (n:Nat) (l:List Ex):tEs n l=l.map (tE n):=by induction l with|nil=>rfl|cons x r ih=>simp [tEs,ih]
theorem tFs_map (n:Nat) (l:List Fn):tFs n l=l.map (tF n):=by induction l with|nil=>rfl|cons x r ih=>simp [tFs,ih]
theorem tBs_map (n:Nat) (l:List (List St)):tBs n l=l.map (Qe (n+1)):=by induction l with|nil=>rfl|cons x r ih=>simp [tBs,ih]
def Zr (n:Nat) (x:Ex):Bs:=(tE n x).1
theorem tE_eq (n:Nat) (x:Ex):tE n x=(Qj n x (x.args.map (Zr n)) (x.funcs.map (tF n)),x.funcs.map (tF n)):=by
  cases x;simp only [tE,tEs_map,tFs_map,List.map_map,Ex.args,Ex.funcs];rfl
theorem ZW (n:Nat) (x:Ex):Zr n x=Qj n x (x.args.map (Zr n)) (x.funcs.map (tF n)):=by unfold Zr;rw [tE_eq];rfl
theorem qI (n:Nat) (f:Fn):tF n f=Qe (n+1) f.body:=by cases f;rfl
theorem Qk (n:Nat) (s:St):tS n s=Qy n s (s.left.map (Zr n)) (s.right.map (Zr n)) (s.right.map fun x=>x.funcs.map (tF n)) (s.blocks.map (Qe (n+1))):=by
  have h:∀ x:Ex,(tE n x).2=x.funcs.map (tF n):=fun x=>by rw [tE_eq]
  cases s;simp only [tS,tEs_map,tBs_map,List.map_map,St.left,St.right,St.blocks,Function.comp_def,h];rfl
theorem tSs_append (n:Nat) (a b:List St):Qe n (a++b)=Qe n a++Qe n b:=by
  induction a with
  | nil=>rfl
  | cons s r ih=>simp [Qe,ih]
def Ky (b:List St):Bs:=Qe 0 b
def NotU (w:World) (k:Nat):Prop:=∀ cs fz,w.heap[k]?≠some (.cells cs 5 fz)
structure Gp (B p:Nat) (w w':World):Prop where
  os:w'.os=w.os
  tape:w'.tape=w.tape
  output:w'.output=w.output
  size:w.heap.size≤w'.heap.size
  block:∀ k,k<w.heap.size→k≠p→(k<B∨NotU w k)→w'.heap[k]?=w.heap[k]?
theorem NotU.kept {w w':World} {k:Nat} (h:NotU w k) (e:w'.heap[k]?=w.heap[k]?):NotU w' k:=fun cs fz h9=>h cs fz (e.symm.trans h9)
theorem Gp.refl (B p:Nat) (w:World):Gp B p w w:=⟨rfl,rfl,rfl,Nat.le_refl _,fun _ _ _ _=>rfl⟩
theorem Gp.thru {B p:Nat} {w b c:World} (h:Gp B p b c) (k:Gp B p w b):Gp B p w c :=
  ⟨h.os.trans k.os,h.tape.trans k.tape,h.output.trans k.output,Nat.le_trans k.size h.size,fun i hi hn hF=>by
    have e:=k.block i hi hn hF;exact (h.block i (Nat.lt_of_lt_of_le hi k.size) hn (hF.imp id fun h9=>h9.kept e)).trans e⟩
theorem Gp.of_below {B p:Nat} {w w':World} (h:Below w.heap.size w w'):Gp B p w w':=⟨h.os,h.tape,h.output,h.size,fun k hk _ _=>h.block k hk⟩
theorem Gp.below {B p:Nat} {w b c:World} (h:Below b.heap.size b c) (k:Gp B p w b):Gp B p w c:=(Gp.of_below h).thru k
theorem Gp.alloc {B p:Nat} {w b:World} (k:Gp B p w b) (o:Obj):Gp B p w (b.alloc o):=Gp.below (Zj (Below.refl _ _) o) k
theorem Gp.drewN {B p:Nat} {w b:World} (k:Gp B p w b) (n:Nat):Gp B p w (b.drewN n):=Gp.below (ZS (Below.refl _ _) n) k
theorem Gp.set {B p:Nat} {w b:World} (k:Gp B p w b) {a:Addr} (ha:a.block=p) (v:Value):Gp B p w (b.setCell a v) :=
  ⟨k.os,k.tape,k.output,by simpa [World.setCell] using k.size,fun i hi hn hF=>by rw [Below.heap_setCell _ _ _ _ (fun e=>hn (e.trans ha))];exact k.block i hi hn hF⟩
theorem Gp.box {B p:Nat} {w w':World} {b:Nat} {cs:Array Value} {T:TypeId} (h:Gp B p w w') (hb:w.heap[b]?=some (.cells cs T)) (hne:b≠p) (hT:T≠5):w'.heap[b]?=some (.cells cs T):=by
  rw [h.block b (Zc hb) hne (.inr fun cs' fz h9=>by rw [hb] at h9;cases h9;exact hT rfl)];exact hb
abbrev Qx (B:Nat):Nat→Prop:=fun k=>k<B
theorem Gp.keep {B p:Nat} {w w':World} (h:Gp B p w w') (hp:B≤p):ZA (Qx B) w w':=⟨h.size,fun k hk hl=>h.block k hl (by unfold Qx at hk;omega) (.inl hk)⟩
theorem Gp.below_of {B p:Nat} {w w':World} (h:Gp B p w w') (hp:B≤p):B≤w.heap.size→Below B w w':=fun hB=>⟨h.os,h.tape,h.output,h.size,fun k hk=>h.block k (by omega) (by omega) (.inl hk)⟩
def zP (l:List ByteArray):Nat:=(l.map fun s=>1+s.size).sum
def YI (l:List (ByteArray × Int)):Nat:=(l.map fun x=>1+x.1.size).sum
mutual
def Ex.wy:Ex→Nat | .mk _ _ _ _ _ s a f=>1+s.size+Ex.wys a+Fn.wys f
def Ex.wys:List Ex→Nat|[]=>0|x::r=>x.wy+Ex.wys r
def Fn.wy:Fn→Nat | .mk n ps _ b _=>1+n.size+zP ps+St.wys b
def Fn.wys:List Fn→Nat|[]=>0|x::r=>x.wy+Fn.wys r
def St.wy:St→Nat | .mk _ _ ns l r b lab=>1+lab.size+YI ns+Ex.wys l+Ex.wys r+St.wyss b
def St.wys:List St→Nat|[]=>0|x::r=>x.wy+St.wys r
def St.wyss:List (List St)→Nat|[]=>0|x::r=>1+St.wys x+St.wyss r
end
theorem Ex.wy_mem {x:Ex} {l:List Ex} (h:x ∈ l):x.wy≤Ex.wys l:=by
  induction l with
  | nil=>cases h
  | cons y r ih =>
    simp only [Ex.wys];rcases List.mem_cons.1 h with rfl|h
    · omega
    · have:=ih h;omega
theorem Fn.wy_mem {x:Fn} {l:List Fn} (h:x ∈ l):x.wy≤Fn.wys l:=by
  induction l with
  | nil=>cases h
  | cons y r ih =>
    simp only [Fn.wys];rcases List.mem_cons.1 h with rfl|h
    · omega
    · have:=ih h;omega
theorem St.wy_mem {x:St} {l:List St} (h:x ∈ l):x.wy≤St.wys l:=by
  induction l with
  | nil=>cases h
  | cons y r ih =>
    simp only [St.wys];rcases List.mem_cons.1 h with rfl|h
    · omega
    · have:=ih h;omega
theorem St.wys_mem {x:List St} {l:List (List St)} (h:x ∈ l):St.wys x+1≤St.wyss l:=by
  induction l with
  | nil=>cases h
  | cons y r ih =>
    simp only [St.wyss];rcases List.mem_cons.1 h with rfl|h
    · omega
    · have:=ih h;omega
theorem Ex.wy_eq (x:Ex):x.wy=1+x.str.size+Ex.wys x.args+Fn.wys x.funcs:=by cases x;simp [Ex.wy,Ex.args,Ex.funcs,Ex.str]
theorem Fn.wy_eq (x:Fn):x.wy=1+x.name.size+zP x.params+St.wys x.body:=by cases x;simp [Fn.wy,Fn.body,Fn.name,Fn.params]
theorem St.wy_eq (x:St):x.wy=1+x.label.size+YI x.names+Ex.wys x.left+Ex.wys x.right+St.wyss x.blocks:=by cases x;simp [St.wy,St.left,St.right,St.blocks,St.label,St.names]
mutual
theorem Ex.wz_wy:∀ x:Ex,x.wz≤x.wy
  | .mk _ _ _ _ _ s a f=>by have:=Ex.wzs_wy a;have:=Fn.wzs_wy f;simp only [Ex.wz,Ex.wy];omega
theorem Ex.wzs_wy:∀ l:List Ex,Ex.wzs l≤Ex.wys l
  | []=>Nat.le_refl _
  | x::r=>by have:=Ex.wz_wy x;have:=Ex.wzs_wy r;simp only [Ex.wzs,Ex.wys];omega
theorem Fn.wz_wy:∀ x:Fn,x.wz≤x.wy
  | .mk _ _ _ b _=>by have:=St.wzs_wy b;simp only [Fn.wz,Fn.wy];omega
theorem Fn.wzs_wy:∀ l:List Fn,Fn.wzs l≤Fn.wys l
  | []=>Nat.le_refl _
  | x::r=>by have:=Fn.wz_wy x;have:=Fn.wzs_wy r;simp only [Fn.wzs,Fn.wys];omega
theorem St.wz_wy:∀ x:St,x.wz≤x.wy
  | .mk _ _ _ l r b _=>by have:=Ex.wzs_wy l;have:=Ex.wzs_wy r;have:=St.wzss_wy b;simp only [St.wz,St.wy];omega
theorem St.wzs_wy:∀ l:List St,St.wzs l≤St.wys l
  | []=>Nat.le_refl _
  | x::r=>by have:=St.wz_wy x;have:=St.wzs_wy r;simp only [St.wzs,St.wys];omega
theorem St.wzss_wy:∀ l:List (List St),St.wzss l≤St.wyss l
  | []=>Nat.le_refl _
  | x::r=>by have:=St.wzs_wy x;have:=St.wzss_wy r;simp only [St.wzss,St.wyss];omega
end
theorem qA {x:Ex} {a b c:Bool} {n:Nat} (h:ZC x a b c (n:Int)=true):x.args.length=n:=by
  unfold ZC at h;simp at h;have:=h.1.2;omega
theorem Vy {x:Ex} (h:x.args.length=1):∃ y,x.args=[y]:=by
  match hx:x.args,h with
  | [y],_=>exact ⟨y,rfl⟩
theorem vK {x:Ex} (h:x.args.length=2):∃ y z,x.args=[y,z]:=by
  match hx:x.args,h with
  | [y,z],_=>exact ⟨y,z,rfl⟩
set_option maxHeartbeats 2000000
set_option maxRecDepth 100000
structure WB (B p m:Nat) (l:Bs) (w:World):Prop where
  base:B≤p
  st:∃ (q:Option Addr) (v:Value),w.heap[p]?=some (.cells #[.pointer q,v,.map (some m)] 64)∧(q=none∨q=some ⟨p,0,none⟩)∧w.ownsRow B 5 1 v l.length (Lib.byteCells l)
theorem WB.below {B p m:Nat} {l:Bs} {w w':World} (h:WB B p m l w) (hb:Below w.heap.size w w'):WB B p m l w':=by
  obtain ⟨hB,q,v,h1,h2,h3⟩:=h;refine ⟨hB,q,v,Zd hb h1,h2,h3.kept (row:=none) ⟨hb.os,hb.tape,hb.output,hb.size,fun k hk _=>hb.block k hk⟩ ?_⟩;cases hv:v.ownBlock
  · exact .inl rfl
  · exact .inr (by simp)
theorem sizeBuilder:(Tryz.prog.info? 62).map (·.size)=some 2:=by kernel_rfl
theorem liesBuilder:liesAt Tryz.prog Tryz.prog.depth 64 (3 / Tryz.prog.cellsOf 64) 0 62 1=true:=by kernel_rfl
theorem infoByte:(Tryz.prog.info? 5).map (fun i=>(i.zero,i.size,i.bytes))=some (some (.int .u8 0),1,1):=by kernel_rfl
theorem copy_used (p:Nat) (w:World) (h0:w.cell? ⟨p,0,none⟩=some (.pointer (some ⟨p,0,none⟩))) :
    Calls Tryz.prog 90 #[.pointer (some ⟨p,0,none⟩)] w fun e w'=>e=.returned (.tuple #[])∧w'=w:=by
  obtain ⟨j,hj,hjs⟩:=Option.map_eq_some_iff.1 sizeBuilder
  go_enter Tryz.func90,Tryz.ntmps90
  go_wp2
  rw [Lib.run_neq_ptr_same w _ Tryz.underlying59 hj]
  go_wp2
  go_end0;exact ⟨rfl,rfl⟩
theorem copy_fresh (p:Nat) (w:World) (h0:w.cell? ⟨p,0,none⟩=some (.pointer none)) (hsh:w.shape? p=some (64,3)) (hfz:w.frozen? ⟨p,0,none⟩=false) :
    Calls Tryz.prog 90 #[.pointer (some ⟨p,0,none⟩)] w fun e w'=>e=.returned (.tuple #[])∧w'=w.setCell ⟨p,0,none⟩ (.pointer (some ⟨p,0,none⟩)):=by
  obtain ⟨j,hj,hjs⟩:=Option.map_eq_some_iff.1 sizeBuilder
  go_enter Tryz.func90,Tryz.ntmps90
  go_wp2
  rw [Lib.run_to_unsafe w ⟨p,0,none⟩ Tryz.underlying59 Tryz.underlying142 hj (by rw [hjs];decide) hsh (Nat.zero_lt_succ 2)];simp only [Result.andThen];rw [Oper.upon_value]
  go_wp2
  rw [run_callFunc_extern Tryz.func122 (by kernel_rfl) (by kernel_rfl) (by kernel_rfl) (e:=Extern.AbiNoEscape.same) (by kernel_rfl)];rw [Lib.run_noEscape];simp only [Result.andThen];rw [Oper.upon_value]
  go_wp2
  rw [Lib.run_from_unsafe w ⟨p,0,none⟩ Tryz.underlying142 Tryz.underlying59 hj hsh liesBuilder];simp only [Result.andThen];rw [Oper.upon_value]
  go_wp2
  go_end0;exact ⟨rfl,rfl⟩
theorem Ya {w:World} {p i:Nat} {cs:Array Value} {T:TypeId} (h:w.heap[p]?=some (.cells cs T)) (v:Value):(w.setCell ⟨p,i,none⟩ v).heap[p]?=some (.cells (cs.setIfInBounds i v) T):=by
  simp [World.setCell,Array.getElem?_modify,h]
theorem copy_any {B p m:Nat} {l:Bs} {w:World} (h:WB B p m l w) :
    Calls Tryz.prog 90 #[.pointer (some ⟨p,0,none⟩)] w fun e w'=>e=.returned (.tuple #[])∧Gp B p w w'∧∃ v,w'.heap[p]?=some (.cells #[.pointer (some ⟨p,0,none⟩),v,.map (some m)] 64)∧w'.ownsRow B 5 1 v l.length (Lib.byteCells l):=by
  obtain ⟨hB,q,v,h1,h2,h3⟩:=h;rcases h2 with rfl|rfl
  · refine (copy_fresh p w (by rw [Za h1];rfl) (by simp [World.shape?,h1]) (Zl h1 0)).mono ?_;rintro e w' ⟨rfl,rfl⟩;refine ⟨rfl,(Gp.refl B p w).set (a:=⟨p,0,none⟩) rfl _,v,Ya h1 _,h3.kept (row:=some p) ⟨rfl,rfl,rfl,by simp [World.setCell],fun k _ hk=>Below.heap_setCell _ _ _ _ (fun e=>hk (by simp [e]))⟩ (.inr ?_)⟩;exact Lib.ownBlock_ne h3 h1 (by decide)
  · refine (copy_used p w (by rw [Za h1];rfl)).mono ?_;rintro e w' ⟨rfl,rfl⟩;exact ⟨rfl,Gp.refl _ _ _,v,h1,h3⟩
theorem Gp.grown {B p:Nat} {w w':World} {v:Value} {n:Nat} {xs:List Value} (hown:w.ownsRow B 5 1 v n xs) (hg:w.grownBy w' v.ownBlock):Gp B p w w':=by
  refine ⟨hg.os,hg.tape,hg.output,hg.size,fun k hk hne hF=>hg.block k hk fun e=>?_⟩;rcases hown.2 with ⟨rfl,_⟩|⟨g,cap,cur,rfl,hb,hgg,_⟩
  · cases e
  · simp only [Value.ownBlock,Option.some.injEq] at e;subst e;rcases hF with hF|hF
    · omega
    · exact hF _ _ hgg
theorem wstr_any {B p m:Nat} {l:Bs} {w:World} (h:WB B p m l w) (s:ByteArray) (hlen:l.length+s.size≤140737488355328) (hBw:B≤w.heap.size) :
    Calls Tryz.prog 60 #[.pointer (some ⟨p,0,none⟩),.string s] w fun e w'=>e=.returned (.tuple #[.int .i64 s.size,.nilIface])∧WB B p m (l++Zg s) w'∧Gp B p w w':=by
  obtain ⟨i0,hi,hz0,hz1,hz2⟩:=info_parts infoByte;have hB:=h.base;have HC:=hI (copy_any h);clear h
  go_enter Tryz.func60,Tryz.ntmps60
  go_wp2_with (go_at_call 90;(with_reducible refine HC.out.mono ?_))
  rintro e w1 ⟨rfl,hg1,v,hbk,hown⟩;have c0:w1.cell? ⟨p,0,none⟩=some (.pointer (some ⟨p,0,none⟩)):=by rw [Za hbk];rfl
  have c1:w1.cell? ⟨p,1,none⟩=some v:=by rw [Za hbk];rfl
  have hlt:=Zc hbk;have hsz:=hg1.size
  go_wp2_with (at_builtin;refine Lib.wpList_append_own_string _ rfl _ _ 60 9 rfl B 5 i0 Tryz.underlying60 Tryz.underlying9 hi hz0 hz1 hz2 _ _ _ rfl hown s rfl ?c3 ?c4 ?c5 ?_)
  case c3=>unfold maxLen;omega
  case c4=>omega
  case c5=>omega
  intro v' w2 hown' hgrow _;have hgp:=Gp.grown (p:=p) hown hgrow
  have hb2:w2.heap[p]?=some (.cells #[.pointer (some ⟨p,0,none⟩),v,.map (some m)] 64):=by
    rw [hgrow.block p hlt (fun e=>Lib.ownBlock_ne hown hbk (by decide) e.symm)];exact hbk
  clear c0 c1;have d0:w2.cell? ⟨p,0,none⟩=some (.pointer (some ⟨p,0,none⟩)):=by rw [Za hb2];rfl
  have d1:w2.cell? ⟨p,1,none⟩=some v:=by rw [Za hb2];rfl
  have f1:=Zl hb2;have hlt2:=Zc hb2
  obtain ⟨ao,n',cap,rfl⟩:∃ ao n' cap,v'=.slice ao n' cap:=by
    rcases hown'.2 with ⟨hv,_⟩|⟨g,cap,cur,hv,_⟩
    · exact ⟨_,_,_,hv⟩
    · exact ⟨_,_,_,hv⟩
  have HG:=hI hg1;have HGP:=hI hgp;have HB2:=hI hb2;have HOWN:=hI hown';clear hg1 hgp hb2 hown' hown hgrow hbk
  go_wp2
  go_ret2
  refine ⟨rfl,⟨hB,_,.slice ao n' cap,?_,.inr rfl,?_⟩,(HGP.out.thru HG.out).set (a:=⟨p,1,none⟩) rfl _⟩
  · exact Ya HB2.out _
  · have h9:w2.ownsRow B 5 1 (.slice ao n' cap) (l++Zg s).length (Lib.byteCells (l++Zg s)):=by
      have e:(l++Zg s).length=l.length+s.size:=by rw [List.length_append];rfl
      rw [e,Lib.byteCells_append];exact HOWN.out
    refine h9.kept (row:=some p) ⟨rfl,rfl,rfl,by simp [World.setCell],fun k _ hk=>Below.heap_setCell _ _ _ _ (fun e=>hk (by simp [e]))⟩ (.inr ?_);exact Lib.ownBlock_ne h9 HB2.out (by decide)
theorem blen_any {B p m:Nat} {l:Bs} {w:World} (h:WB B p m l w) :
    Calls Tryz.prog 32 #[.pointer (some ⟨p,0,none⟩)] w fun e w'=>e=.returned (.int .i64 (l.length:Int))∧w'=w:=by
  obtain ⟨hB,q,v,h1,h2,h3⟩:=h;have c0:=fun i=>Za h1 i
  obtain ⟨ao,n',cap,rfl,hn⟩:∃ ao n' cap,v=.slice ao n' cap∧n'=l.length:=by
    rcases h3.2 with ⟨hv,h0⟩|⟨g,cap,cur,hv,_⟩
    · exact ⟨_,_,_,hv,h0.symm⟩
    · exact ⟨_,_,_,hv,rfl⟩
  subst hn;clear h1 h2 h3
  go_enter Tryz.func32,Tryz.ntmps32
  go_wp2
  go_ret;exact ⟨rfl,rfl⟩
structure WrT (B p m:Nat) (T:Bs) (w:World):Prop where
  st:∃ l:Bs,WB B p m l w∧(T.length≤65536→l=T)∧(65536<T.length→65536<l.length)
theorem WrT.below {B p m:Nat} {T:Bs} {w w':World} (h:WrT B p m T w) (hb:Below w.heap.size w w'):WrT B p m T w':=by
  obtain ⟨l,h1,h2⟩:=h.st;exact ⟨l,h1.below hb,h2⟩
theorem WrT.lt {B p m:Nat} {T:Bs} {w:World} (h:WrT B p m T w):B≤p∧p<w.heap.size:=by
  obtain ⟨l,⟨hB,q,v,h1,-⟩,-⟩:=h.st;exact ⟨hB,Zc h1⟩
def SafeK (B p:Nat) (w:World):Nat→Prop:=fun k=>k≠p∧(k<B∨NotU w k)
theorem Gp.keepS {B p:Nat} {w w':World} (h:Gp B p w w'):ZA (SafeK B p w) w w':=⟨h.size,fun k hk hl=>h.block k hl hk.1 hk.2⟩
theorem Je {l:List ByteArray} {k:Nat} {s:ByteArray} (h:l[k]?=some s):((l.take (k+1)).map Zg).flatten=((l.take k).map Zg).flatten++Zg s:=by
  rw [List.take_add_one,h];simp
theorem put_any {B p m:Nat} {T:Bs} (l:List ByteArray) (a:Option Addr) (c:Nat) (w:World) (hl:l.length≤c) (hlm:l.length≤9223372036854775807) (hr:Rows (SafeK B p w) w 1 QR l a) (hs:∀ s ∈ l,s.size≤70368744177664) (h:WrT B p m T w) :
    Calls Tryz.prog 29 #[.pointer (some ⟨p,0,none⟩),.slice a l.length c] w fun e w'=>e=.returned (.tuple #[])∧WrT B p m (T++(l.map Zg).flatten) w'∧Gp B p w w':=by
  have HR:=hI hr;have HS:=hI hs;have hBp:=h.lt;have HW0:=hI h;clear hr hs h
  go_enter Tryz.func29,Tryz.ntmps29
  go_wp2_with fail
  go_loopg [5,8] l.length (fun gk u i wr=>∃ k:Nat,gk+k=l.length∧i=.int .i64 k∧Gp B p w wr∧WrT B p m (T++((l.take k).map Zg).flatten) wr)
  case atStart=>exact ⟨0,by omega,rfl,Gp.refl _ _ _,by simpa using HW0.out⟩
  case round =>
    obtain ⟨k,hk,rfl,hgw,hwr⟩:=hrel;have HG:=hI hgw;have HWR:=hI hwr;have HK:=hI hk;have hpl:=hwr.lt;obtain ⟨ll,hwb,hle,hgt⟩:=hwr.st;clear hgw hwr;have HLEN:=hI (blen_any hwb);have HWB:=hI hwb;obtain ⟨hB0,q0,v0,h10,h20,h30⟩:=hwb;have k0:=fun i=>Za h10 i;by_cases hlt:k<l.length
    · obtain ⟨s,hx⟩:∃ s,l[k]?=some s:=⟨_,List.getElem?_eq_getElem hlt⟩
      have HX:=hI hx
      have hcell:∃ b off,a=some ⟨b,off,none⟩∧b<w.heap.size∧wr.rangeAt b (off+k*1) [.string s]:=by
        obtain ⟨b,off,h1,h2⟩:=HR.out;obtain ⟨ha,hF,hlb⟩:=h1 (by rintro rfl;simp at hlt);obtain ⟨cs,hr9,rfl,-⟩:=h2 k s hx;exact ⟨b,off,ha,hlb,HG.out.keepS.range hF hlb hr9⟩
      obtain ⟨b,off,rfl,hlb,hr'⟩:=hcell;have c0:=hr' 0 _ rfl;simp only [Nat.add_zero,Nat.mul_one] at c0;have hsz:=HS.out s (List.mem_of_getElem? hx);by_cases hfit:ll.length≤65536
      · have HWS:=hI (wstr_any HWB.out s (by omega) (by omega));have t0:decide ((ll.length:Int)≤65536)=true:=by simp;omega
        have hT:(T++((l.take k).map Zg).flatten).length≤65536:=by
          apply Nat.le_of_not_lt;intro h9;have:=hgt h9;omega
        have hll:=hle hT;have HLL:=hI hll;clear hr' hx hk hle hgt h10 h20 h30 hll
        go_wp2_with (first
          | (go_at_call 32;(with_reducible refine HLEN.out.mono ?_);rintro e w1 ⟨rfl,hw1⟩;subst w1)
          | (go_at_call 60;(with_reducible refine HWS.out.mono ?_);rintro e w2 ⟨rfl,hwb2,hg2⟩;have HWB2:=hI hwb2;have HG2:=hI hg2;clear hwb2 hg2))
        go_roundg (gk - 1)
        case rel =>
          refine ⟨k+1,by have:=HK.out;omega,by go_num,HG2.out.thru HG.out,⟨_,HWB2.out,fun _=>?_,fun h9=>?_⟩⟩
          · rw [Je HX.out,←List.append_assoc,HLL.out]
          · rw [Je HX.out,←List.append_assoc,←HLL.out] at h9;exact h9
        case measure=>have:=HK.out;omega
      · have t0:decide ((ll.length:Int)≤65536)=false:=by simp;omega
        have hT:65536<(T++((l.take k).map Zg).flatten).length:=by
          apply Nat.lt_of_not_le;intro h9;have:=hle h9;rw [this] at hfit;omega
        have HLL:=hI (And.intro hT hfit);clear hr' hx hk hle hgt h10 h20 h30 hT
        go_wp2_with (first
          | (go_at_call 32;(with_reducible refine HLEN.out.mono ?_);rintro e w1 ⟨rfl,hw1⟩;subst w1))
        go_roundg (gk - 1)
        case rel =>
          refine ⟨k+1,by have:=HK.out;omega,by go_num,HG.out,⟨_,HWB.out,fun h9=>?_,fun h9=>?_⟩⟩
          · have:=HLL.out.1;rw [Je HX.out,←List.append_assoc,List.length_append] at h9;omega
          · have:=HLL.out.2;omega
        case measure=>have:=HK.out;omega
    · have hke:k=l.length:=by omega
      have HE:=hI hke;clear hk hke
      go_wp2_with fail
      go_end0;refine ⟨rfl,?_,HG.out⟩;have:=HWR.out;rw [HE.out,List.take_length] at this;exact this
open Go.Maps (Keyed)
theorem Vr:Keyed Tryz.prog 3:=Maps.int_keyed Tryz.underlying3
theorem zeroI (w:World):(zeroValue 3).run Tryz.prog w=.ok (.int .i64 0) w:=by kernel_rfl
def levD:DataW Unit:=((((((((((((((((((((DataW.map (H:=Unit) []).put (.int .i64 14) (.lit (.int .i64 3))).put (.int .i64 15) (.lit (.int .i64 3))).put (.int .i64 16) (.lit (.int .i64 3))).put (.int .i64 17) (.lit (.int .i64 3))).put (.int .i64 18) (.lit (.int .i64 3))).put (.int .i64 19) (.lit (.int .i64 3))).put (.int .i64 10) (.lit (.int .i64 4))).put (.int .i64 11) (.lit (.int .i64 5))).put (.int .i64 9) (.lit (.int .i64 6))).put (.int .i64 12) (.lit (.int .i64 7))).put (.int .i64 13) (.lit (.int .i64 7))).put (.int .i64 8) (.lit (.int .i64 8))).put (.int .i64 1) (.lit (.int .i64 9))).put (.int .i64 2) (.lit (.int .i64 9))).put (.int .i64 3) (.lit (.int .i64 10))).put (.int .i64 4) (.lit (.int .i64 10))).put (.int .i64 5) (.lit (.int .i64 10))).put (.int .i64 6) (.lit (.int .i64 10))).put (.int .i64 7) (.lit (.int .i64 12)))
theorem QM (a:Int):WideAt.IsKeyLit (.int .i64 a):=trivial
theorem lev_at (o:Int):levD.atKey (.int .i64 o) (.lit (.int .i64 0))=.lit (.int .i64 (yn o)):=by
  unfold levD;by_cases h7:o=7
  · subst h7;rw [Maps.atKey_put_same (by repeat (first|exact Maps.isMap_empty|apply Maps.IsMap.put)) (QM _)];rfl
  rw [Maps.atKey_put_other (by intro e;simp only [Lit.int.injEq] at e;exact h7 e.2)];by_cases h6:o=6
  · subst h6;rw [Maps.atKey_put_same (by repeat (first|exact Maps.isMap_empty|apply Maps.IsMap.put)) (QM _)];rfl
  rw [Maps.atKey_put_other (by intro e;simp only [Lit.int.injEq] at e;exact h6 e.2)];by_cases h5:o=5
  · subst h5;rw [Maps.atKey_put_same (by repeat (first|exact Maps.isMap_empty|apply Maps.IsMap.put)) (QM _)];rfl
  rw [Maps.atKey_put_other (by intro e;simp only [Lit.int.injEq] at e;exact h5 e.2)];by_cases h4:o=4
  · subst h4;rw [Maps.atKey_put_same (by repeat (first|exact Maps.isMap_empty|apply Maps.IsMap.put)) (QM _)];rfl
  rw [Maps.atKey_put_other (by intro e;simp only [Lit.int.injEq] at e;exact h4 e.2)];by_cases h3:o=3
  · subst h3;rw [Maps.atKey_put_same (by repeat (first|exact Maps.isMap_empty|apply Maps.IsMap.put)) (QM _)];rfl
  rw [Maps.atKey_put_other (by intro e;simp only [Lit.int.injEq] at e;exact h3 e.2)];by_cases h2:o=2
  · subst h2;rw [Maps.atKey_put_same (by repeat (first|exact Maps.isMap_empty|apply Maps.IsMap.put)) (QM _)];rfl
  rw [Maps.atKey_put_other (by intro e;simp only [Lit.int.injEq] at e;exact h2 e.2)];by_cases h1:o=1
  · subst h1;rw [Maps.atKey_put_same (by repeat (first|exact Maps.isMap_empty|apply Maps.IsMap.put)) (QM _)];rfl
  rw [Maps.atKey_put_other (by intro e;simp only [Lit.int.injEq] at e;exact h1 e.2)];by_cases h8:o=8
  · subst h8;rw [Maps.atKey_put_same (by repeat (first|exact Maps.isMap_empty|apply Maps.IsMap.put)) (QM _)];rfl
  rw [Maps.atKey_put_other (by intro e;simp only [Lit.int.injEq] at e;exact h8 e.2)];by_cases h13:o=13
  · subst h13;rw [Maps.atKey_put_same (by repeat (first|exact Maps.isMap_empty|apply Maps.IsMap.put)) (QM _)];rfl
  rw [Maps.atKey_put_other (by intro e;simp only [Lit.int.injEq] at e;exact h13 e.2)];by_cases h12:o=12
  · subst h12;rw [Maps.atKey_put_same (by repeat (first|exact Maps.isMap_empty|apply Maps.IsMap.put)) (QM _)];rfl
  rw [Maps.atKey_put_other (by intro e;simp only [Lit.int.injEq] at e;exact h12 e.2)];by_cases h9:o=9
  · subst h9;rw [Maps.atKey_put_same (by repeat (first|exact Maps.isMap_empty|apply Maps.IsMap.put)) (QM _)];rfl
  rw [Maps.atKey_put_other (by intro e;simp only [Lit.int.injEq] at e;exact h9 e.2)];by_cases h11:o=11
  · subst h11;rw [Maps.atKey_put_same (by repeat (first|exact Maps.isMap_empty|apply Maps.IsMap.put)) (QM _)];rfl
  rw [Maps.atKey_put_other (by intro e;simp only [Lit.int.injEq] at e;exact h11 e.2)];by_cases h10:o=10
  · subst h10;rw [Maps.atKey_put_same (by repeat (first|exact Maps.isMap_empty|apply Maps.IsMap.put)) (QM _)];rfl
  rw [Maps.atKey_put_other (by intro e;simp only [Lit.int.injEq] at e;exact h10 e.2)];by_cases h19:o=19
  · subst h19;rw [Maps.atKey_put_same (by repeat (first|exact Maps.isMap_empty|apply Maps.IsMap.put)) (QM _)];rfl
  rw [Maps.atKey_put_other (by intro e;simp only [Lit.int.injEq] at e;exact h19 e.2)];by_cases h18:o=18
  · subst h18;rw [Maps.atKey_put_same (by repeat (first|exact Maps.isMap_empty|apply Maps.IsMap.put)) (QM _)];rfl
  rw [Maps.atKey_put_other (by intro e;simp only [Lit.int.injEq] at e;exact h18 e.2)];by_cases h17:o=17
  · subst h17;rw [Maps.atKey_put_same (by repeat (first|exact Maps.isMap_empty|apply Maps.IsMap.put)) (QM _)];rfl
  rw [Maps.atKey_put_other (by intro e;simp only [Lit.int.injEq] at e;exact h17 e.2)];by_cases h16:o=16
  · subst h16;rw [Maps.atKey_put_same (by repeat (first|exact Maps.isMap_empty|apply Maps.IsMap.put)) (QM _)];rfl
  rw [Maps.atKey_put_other (by intro e;simp only [Lit.int.injEq] at e;exact h16 e.2)];by_cases h15:o=15
  · subst h15;rw [Maps.atKey_put_same (by repeat (first|exact Maps.isMap_empty|apply Maps.IsMap.put)) (QM _)];rfl
  rw [Maps.atKey_put_other (by intro e;simp only [Lit.int.injEq] at e;exact h15 e.2)];by_cases h14:o=14
  · subst h14;rw [Maps.atKey_put_same (by repeat (first|exact Maps.isMap_empty|apply Maps.IsMap.put)) (QM _)];rfl
  rw [Maps.atKey_put_other (by intro e;simp only [Lit.int.injEq] at e;exact h14 e.2)];have e:yn o=0:=by unfold yn;rw [if_neg (by omega),if_neg (by omega),if_neg (by omega),if_neg (by omega),if_neg (by omega),if_neg (by omega),if_neg (by omega),if_neg (by omega),if_neg (by omega)]
  rw [e];rfl
def vg (m:Nat) (w:World):Prop:=∃ n,w.ownsMap (H:=Unit) Tryz.prog 3 (plainElem Tryz.prog 3) m n levD
theorem vg.notU {m:Nat} {w:World} (h:vg m w):m<w.heap.size∧NotU w m:=by
  obtain ⟨n,es,clock,hb,-⟩:=h;exact ⟨Zc hb,fun cs fz h9=>by rw [hb] at h9;cases h9⟩
theorem vg.of {m:Nat} {w w':World} (h:vg m w) (e:w'.heap[m]?=w.heap[m]?):vg m w':=by
  obtain ⟨n,es,clock,hb,h2⟩:=h;exact ⟨n,es,clock,e.trans hb,h2⟩
theorem vg.below {m:Nat} {w w':World} (h:vg m w) (hb:Below w.heap.size w w'):vg m w':=h.of (hb.block m h.notU.1)
theorem vg.look {m:Nat} {w:World} (h:vg m w) (o:Int) (ho:QO o):(Instr.lookup 58 (.map (some m)) (.int .i64 o) false).run Tryz.prog w=.ok (.int .i64 (yn o)) w:=by
  obtain ⟨n,hn⟩:=h;obtain ⟨c,hrun,hat,-⟩:=hn.lookup_int Vr Tryz.underlying58 Tryz.underlying3 (zeroI w) (key:=.int .i64 o) (kl:=.int .i64 o) (Maps.keyOf_int_mk Tryz.underlying3 (by unfold QO at ho;exact WalkArith.wf_i64 ho));rw [lev_at] at hat;cases hat;exact hrun
structure zw (B p m:Nat) (T:Bs) (w:World):Prop where
  t:WrT B p m T w
  mp:vg m w
theorem zw.below {B p m:Nat} {T:Bs} {w w':World} (h:zw B p m T w) (hb:Below w.heap.size w w'):zw B p m T w':=⟨h.t.below hb,h.mp.below hb⟩
theorem zw.ne {B p m:Nat} {T:Bs} {w:World} (h:zw B p m T w):m≠p:=by
  obtain ⟨l,⟨hB,q,v,h1,-⟩,-⟩:=h.t.st;obtain ⟨n,es,clock,hb,-⟩:=h.mp;rintro rfl;rw [h1] at hb;cases hb
theorem zw.lt {B p m:Nat} {T:Bs} {w:World} (h:zw B p m T w):B≤p∧p<w.heap.size:=h.t.lt
theorem zw.cells {B p m:Nat} {T:Bs} {w:World} (h:zw B p m T w):∃ q v,w.heap[p]?=some (.cells #[.pointer q,v,.map (some m)] 64):=by
  obtain ⟨l,⟨hB,q,v,h1,-⟩,-⟩:=h.t.st;exact ⟨q,v,h1⟩
theorem vg.gp {B p m:Nat} {w w':World} (h:vg m w) (hg:Gp B p w w') (hne:m≠p):vg m w':=h.of (hg.block m h.notU.1 hne (.inr h.notU.2))
theorem put_at {B p m:Nat} {T:Bs} (l:List ByteArray) (a:Option Addr) (c:Nat) (w:World) (hl:l.length≤c) (hlm:l.length≤9223372036854775807) (hr:Rows (SafeK B p w) w 1 QR l a) (hs:∀ s ∈ l,s.size≤70368744177664) (h:zw B p m T w) :
    Calls Tryz.prog 29 #[.pointer (some ⟨p,0,none⟩),.slice a l.length c] w fun e w'=>e=.returned (.tuple #[])∧zw B p m (T++(l.map Zg).flatten) w'∧Gp B p w w' :=
  (put_any l a c w hl hlm hr hs h.t).mono fun e w' ⟨h1,h2,h3⟩=>⟨h1,⟨h2,h.mp.gp h3 h.ne⟩,h3⟩
theorem Vx {w b c:World} {m:Nat} (h:Below w.heap.size w b) (hg:b.grownBy c (some m)) (hm:w.heap.size≤m):Below w.heap.size w c :=
  ⟨hg.os.trans h.os,hg.tape.trans h.tape,hg.output.trans h.output,Nat.le_trans h.size hg.size,fun k hk=>(hg.block k (Nat.lt_of_lt_of_le hk h.size) (by simp;omega)).trans (h.block k hk)⟩
set_option maxRecDepth 100000 in
set_option maxHeartbeats 4000000 in
theorem qK (w:World) :
    Calls Tryz.prog 15 #[] w fun e w'=>∃ p m,e=.returned (.pointer (some ⟨p,0,none⟩))∧zw w.heap.size p m [] w'∧Below w.heap.size w w':=by
  have hmm:=@run_makeMap Tryz.prog;have h0:=World.ownsMap_made (H:=Unit) w Tryz.prog 3 (plainElem Tryz.prog 3);have b0:Below w.heap.size w (w.alloc (.map #[] 0)):=Zj (Below.refl _ _) _;obtain ⟨w1,r1,h1,g1⟩:=h0.update Vr Tryz.underlying58 (by unfold maxLen;omega) (Maps.keyOf_int_mk Tryz.underlying3 (q:=.i64) (a:=14) (by decide)) (plainElem_int Tryz.underlying3 (q:=.i64) (a:=3) (by decide));have b1:=Vx b0 g1 (Nat.le_refl _);clear h0 b0 g1;obtain ⟨w2,r2,h2,g2⟩:=h1.update Vr Tryz.underlying58 (by unfold maxLen;omega) (Maps.keyOf_int_mk Tryz.underlying3 (q:=.i64) (a:=15) (by decide)) (plainElem_int Tryz.underlying3 (q:=.i64) (a:=3) (by decide));have b2:=Vx b1 g2 (Nat.le_refl _);clear h1 b1 g2;obtain ⟨w3,r3,h3,g3⟩:=h2.update Vr Tryz.underlying58 (by unfold maxLen;omega) (Maps.keyOf_int_mk Tryz.underlying3 (q:=.i64) (a:=16) (by decide)) (plainElem_int Tryz.underlying3 (q:=.i64) (a:=3) (by decide));have b3:=Vx b2 g3 (Nat.le_refl _);clear h2 b2 g3;obtain ⟨w4,r4,h4,g4⟩:=h3.update Vr Tryz.underlying58 (by unfold maxLen;omega) (Maps.keyOf_int_mk Tryz.underlying3 (q:=.i64) (a:=17) (by decide)) (plainElem_int Tryz.underlying3 (q:=.i64) (a:=3) (by decide));have b4:=Vx b3 g4 (Nat.le_refl _);clear h3 b3 g4;obtain ⟨w5,r5,h5,g5⟩:=h4.update Vr Tryz.underlying58 (by unfold maxLen;omega) (Maps.keyOf_int_mk Tryz.underlying3 (q:=.i64) (a:=18) (by decide)) (plainElem_int Tryz.underlying3 (q:=.i64) (a:=3) (by decide));have b5:=Vx b4 g5 (Nat.le_refl _);clear h4 b4 g5;obtain ⟨w6,r6,h6,g6⟩:=h5.update Vr Tryz.underlying58 (by unfold maxLen;omega) (Maps.keyOf_int_mk Tryz.underlying3 (q:=.i64) (a:=19) (by decide)) (plainElem_int Tryz.underlying3 (q:=.i64) (a:=3) (by decide));have b6:=Vx b5 g6 (Nat.le_refl _);clear h5 b5 g6;obtain ⟨w7,r7,h7,g7⟩:=h6.update Vr Tryz.underlying58 (by unfold maxLen;omega) (Maps.keyOf_int_mk Tryz.underlying3 (q:=.i64) (a:=10) (by decide)) (plainElem_int Tryz.underlying3 (q:=.i64) (a:=4) (by decide))
  have b7:=Vx b6 g7 (Nat.le_refl _);clear h6 b6 g7;obtain ⟨w8,r8,h8,g8⟩:=h7.update Vr Tryz.underlying58 (by unfold maxLen;omega) (Maps.keyOf_int_mk Tryz.underlying3 (q:=.i64) (a:=11) (by decide)) (plainElem_int Tryz.underlying3 (q:=.i64) (a:=5) (by decide));have b8:=Vx b7 g8 (Nat.le_refl _);clear h7 b7 g8;obtain ⟨w9,r9,h9,g9⟩:=h8.update Vr Tryz.underlying58 (by unfold maxLen;omega) (Maps.keyOf_int_mk Tryz.underlying3 (q:=.i64) (a:=9) (by decide)) (plainElem_int Tryz.underlying3 (q:=.i64) (a:=6) (by decide));have b9:=Vx b8 g9 (Nat.le_refl _);clear h8 b8 g9;obtain ⟨w10,r10,h10,g10⟩:=h9.update Vr Tryz.underlying58 (by unfold maxLen;omega) (Maps.keyOf_int_mk Tryz.underlying3 (q:=.i64) (a:=12) (by decide)) (plainElem_int Tryz.underlying3 (q:=.i64) (a:=7) (by decide));have b10:=Vx b9 g10 (Nat.le_refl _);clear h9 b9 g10;obtain ⟨w11,r11,h11,g11⟩:=h10.update Vr Tryz.underlying58 (by unfold maxLen;omega) (Maps.keyOf_int_mk Tryz.underlying3 (q:=.i64) (a:=13) (by decide)) (plainElem_int Tryz.underlying3 (q:=.i64) (a:=7) (by decide));have b11:=Vx b10 g11 (Nat.le_refl _);clear h10 b10 g11;obtain ⟨w12,r12,h12,g12⟩:=h11.update Vr Tryz.underlying58 (by unfold maxLen;omega) (Maps.keyOf_int_mk Tryz.underlying3 (q:=.i64) (a:=8) (by decide)) (plainElem_int Tryz.underlying3 (q:=.i64) (a:=8) (by decide));have b12:=Vx b11 g12 (Nat.le_refl _);clear h11 b11 g12;obtain ⟨w13,r13,h13,g13⟩:=h12.update Vr Tryz.underlying58 (by unfold maxLen;omega) (Maps.keyOf_int_mk Tryz.underlying3 (q:=.i64) (a:=1) (by decide)) (plainElem_int Tryz.underlying3 (q:=.i64) (a:=9) (by decide));have b13:=Vx b12 g13 (Nat.le_refl _);clear h12 b12 g13;obtain ⟨w14,r14,h14,g14⟩:=h13.update Vr Tryz.underlying58 (by unfold maxLen;omega) (Maps.keyOf_int_mk Tryz.underlying3 (q:=.i64) (a:=2) (by decide)) (plainElem_int Tryz.underlying3 (q:=.i64) (a:=9) (by decide))
  have b14:=Vx b13 g14 (Nat.le_refl _);clear h13 b13 g14;obtain ⟨w15,r15,h15,g15⟩:=h14.update Vr Tryz.underlying58 (by unfold maxLen;omega) (Maps.keyOf_int_mk Tryz.underlying3 (q:=.i64) (a:=3) (by decide)) (plainElem_int Tryz.underlying3 (q:=.i64) (a:=10) (by decide));have b15:=Vx b14 g15 (Nat.le_refl _);clear h14 b14 g15;obtain ⟨w16,r16,h16,g16⟩:=h15.update Vr Tryz.underlying58 (by unfold maxLen;omega) (Maps.keyOf_int_mk Tryz.underlying3 (q:=.i64) (a:=4) (by decide)) (plainElem_int Tryz.underlying3 (q:=.i64) (a:=10) (by decide));have b16:=Vx b15 g16 (Nat.le_refl _);clear h15 b15 g16;obtain ⟨w17,r17,h17,g17⟩:=h16.update Vr Tryz.underlying58 (by unfold maxLen;omega) (Maps.keyOf_int_mk Tryz.underlying3 (q:=.i64) (a:=5) (by decide)) (plainElem_int Tryz.underlying3 (q:=.i64) (a:=10) (by decide));have b17:=Vx b16 g17 (Nat.le_refl _);clear h16 b16 g17;obtain ⟨w18,r18,h18,g18⟩:=h17.update Vr Tryz.underlying58 (by unfold maxLen;omega) (Maps.keyOf_int_mk Tryz.underlying3 (q:=.i64) (a:=6) (by decide)) (plainElem_int Tryz.underlying3 (q:=.i64) (a:=10) (by decide));have b18:=Vx b17 g18 (Nat.le_refl _);clear h17 b17 g18;obtain ⟨w19,r19,h19,g19⟩:=h18.update Vr Tryz.underlying58 (by unfold maxLen;omega) (Maps.keyOf_int_mk Tryz.underlying3 (q:=.i64) (a:=7) (by decide)) (plainElem_int Tryz.underlying3 (q:=.i64) (a:=12) (by decide));have b19:=Vx b18 g19 (Nat.le_refl _);clear h18 b18 g19;have HM:=hI h19;have HB:=hI b19;clear h19 b19
  go_enter Tryz.func15,Tryz.ntmps15
  go_wp2_with fail
  go_ret;refine ⟨_,_,rfl,⟨⟨[],⟨HB.out.size,none,.slice none 0 0,Zk rfl,.inl rfl,World.ownsRow_nil _ _ _ _⟩,fun _=>rfl,fun h=>absurd h (by simp)⟩,(vg.below ⟨_,HM.out⟩ (Zj (Below.refl _ _) _))⟩,Zj HB.out _⟩
end Go.Proofs.YtdmdhopfgnlnoaaGreatDoor
