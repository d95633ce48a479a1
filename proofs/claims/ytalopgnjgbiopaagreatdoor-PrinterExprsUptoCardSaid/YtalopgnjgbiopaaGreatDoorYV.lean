/- Parts. -/
import Derived.Test.YtalopgnjgbiopaaGreatDoorYC
import Derived.Test.YtalopgnjgbiopaaGreatDoorYR
import Derived.Test.YtalopgnjgbiopaaGreatDoorPY
namespace Go.Proofs.YtalopgnjgbiopaaGreatDoor
open Go.RowKit
set_option linter.unusedVariables false
set_option linter.unusedSimpArgs false
set_option maxHeartbeats 1600000
set_option maxRecDepth 100000
abbrev Qw:Array Oper:=#[{ dst:=some 34,op:=Op.fieldAddr 34 (Operand.tmp 2) 5,type:=0,pos := "ref.go:71",after:=#[],guard:=none },
  { dst:=some 35,op:=Op.load 31 (Operand.tmp 34),type:=31,pos := "ref.go:71",after:=#[{ on:=0,ground:=Ground.data }],guard:=none },
  { dst:=some 36,op:=Op.indexAddr 31 (Operand.tmp 35) (Operand.const (Value.int IntKind.i64 0)),type:=0,pos := "ref.go:71",after:=#[{ on:=1,ground:=Ground.data }],guard:=none },
  { dst:=some 37,op:=Op.load 34 (Operand.tmp 36),type:=34,pos := "ref.go:71",after:=#[{ on:=2,ground:=Ground.data }],guard:=none },
  { dst:=some 38,op:=Op.move (Operand.tmp 1),type:=3,pos := "ref.go:71",after:=#[],guard:=none },
  { dst:=some 39,op:=Op.move (Operand.tmp 7),type:=3,pos := "ref.go:71",after:=#[],guard:=none },
  { dst:=some 40,op:=Op.move (Operand.tmp 5),type:=3,pos := "ref.go:71",after:=#[],guard:=none },
  { dst:=some 41,op:=Op.binOp BinOp.lss 3 (Operand.tmp 39) (Operand.tmp 40) 3,type:=4,pos := "ref.go:71",after:=#[{ on:=5,ground:=Ground.data },{ on:=6,ground:=Ground.data }],guard:=none },
  { dst:=some 42,op:=Op.move (Operand.tmp 41),type:=4,pos := "ref.go:71",after:=#[{ on:=7,ground:=Ground.data }],guard:=none },
  { dst:=some 43,op:=Op.move (Operand.tmp 7),type:=3,pos := "ref.go:71",after:=#[{ on:=8,ground:=Ground.guard }],guard:=some (8,false) },
  { dst:=some 44,op:=Op.move (Operand.tmp 5),type:=3,pos := "ref.go:71",after:=#[{ on:=8,ground:=Ground.guard }],guard:=some (8,false) },
  { dst:=some 45,op:=Op.binOp BinOp.eql 3 (Operand.tmp 43) (Operand.tmp 44) 3,type:=4,pos := "ref.go:71",after:=#[{ on:=9,ground:=Ground.data },{ on:=10,ground:=Ground.data },{ on:=8,ground:=Ground.guard }],guard:=some (8,false) },
  { dst:=some 46,op:=Op.move (Operand.tmp 45),type:=4,pos := "ref.go:71",after:=#[{ on:=11,ground:=Ground.data },{ on:=8,ground:=Ground.chain },{ on:=8,ground:=Ground.guard }],guard:=some (8,false) },
  { dst:=some 47,op:=Op.move (Operand.tmp 6),type:=4,pos := "ref.go:71",after:=#[{ on:=12,ground:=Ground.guard }],guard:=some (12,true) },
  { dst:=some 48,op:=Op.pick (Operand.tmp 46) (Operand.tmp 47) (Operand.const (Value.bool false)),type:=4,pos := "ref.go:71",after:=#[{ on:=12,ground:=Ground.data },{ on:=13,ground:=Ground.data },{ on:=8,ground:=Ground.guard }],guard:=some (8,false) },
  { dst:=some 49,op:=Op.pick (Operand.tmp 42) (Operand.const (Value.bool true)) (Operand.tmp 48),type:=4,pos := "ref.go:71",after:=#[{ on:=8,ground:=Ground.data },{ on:=14,ground:=Ground.data }],guard:=none },
  { dst:=some 50,op:=Op.call { callee:=Callee.value (Operand.func 99),args:=#[Operand.tmp 37,Operand.tmp 38,Operand.tmp 49],argTypes:=#[34,3,4] },type:=9,pos := "ref.go:71",after:=#[{ on:=3,ground:=Ground.data },{ on:=4,ground:=Ground.data },{ on:=15,ground:=Ground.data },{ on:=12,ground:=Ground.chain }],guard:=none },
  { dst:=some 51,op:=Op.binOp BinOp.add 9 (Operand.tmp 50) (Operand.const (Value.string { data:=#[32] })) 9,type:=9,pos := "ref.go:71",after:=#[{ on:=16,ground:=Ground.data }],guard:=none },
  { dst:=some 52,op:=Op.load 34 (Operand.tmp 2),type:=34,pos := "ref.go:71",after:=#[],guard:=none },
  { dst:=some 53,op:=Op.call { callee:=Callee.value (Operand.func 103),args:=#[Operand.tmp 52],argTypes:=#[34] },type:=9,pos := "ref.go:71",after:=#[{ on:=18,ground:=Ground.data },{ on:=16,ground:=Ground.chain }],guard:=none },
  { dst:=some 54,op:=Op.binOp BinOp.add 9 (Operand.tmp 51) (Operand.tmp 53) 9,type:=9,pos := "ref.go:71",after:=#[{ on:=17,ground:=Ground.data },{ on:=19,ground:=Ground.data }],guard:=none },
  { dst:=some 55,op:=Op.binOp BinOp.add 9 (Operand.tmp 54) (Operand.const (Value.string { data:=#[32] })) 9,type:=9,pos := "ref.go:71",after:=#[{ on:=20,ground:=Ground.data }],guard:=none },
  { dst:=some 56,op:=Op.fieldAddr 34 (Operand.tmp 2) 5,type:=0,pos := "ref.go:71",after:=#[],guard:=none },
  { dst:=some 57,op:=Op.load 31 (Operand.tmp 56),type:=31,pos := "ref.go:71",after:=#[{ on:=22,ground:=Ground.data }],guard:=none },
  { dst:=some 58,op:=Op.indexAddr 31 (Operand.tmp 57) (Operand.const (Value.int IntKind.i64 1)),type:=0,pos := "ref.go:71",after:=#[{ on:=23,ground:=Ground.data }],guard:=none },
  { dst:=some 59,op:=Op.load 34 (Operand.tmp 58),type:=34,pos := "ref.go:71",after:=#[{ on:=24,ground:=Ground.data }],guard:=none },
  { dst:=some 60,op:=Op.move (Operand.tmp 1),type:=3,pos := "ref.go:71",after:=#[],guard:=none },
  { dst:=some 61,op:=Op.move (Operand.tmp 8),type:=3,pos := "ref.go:71",after:=#[],guard:=none },
  { dst:=some 62,op:=Op.move (Operand.tmp 5),type:=3,pos := "ref.go:71",after:=#[],guard:=none },
  { dst:=some 63,op:=Op.binOp BinOp.lss 3 (Operand.tmp 61) (Operand.tmp 62) 3,type:=4,pos := "ref.go:71",after:=#[{ on:=27,ground:=Ground.data },{ on:=28,ground:=Ground.data }],guard:=none },
  { dst:=some 64,op:=Op.move (Operand.tmp 63),type:=4,pos := "ref.go:71",after:=#[{ on:=29,ground:=Ground.data },{ on:=19,ground:=Ground.chain }],guard:=none },
  { dst:=some 65,op:=Op.move (Operand.tmp 8),type:=3,pos := "ref.go:71",after:=#[{ on:=30,ground:=Ground.guard }],guard:=some (30,false) },
  { dst:=some 66,op:=Op.move (Operand.tmp 5),type:=3,pos := "ref.go:71",after:=#[{ on:=30,ground:=Ground.guard }],guard:=some (30,false) },
  { dst:=some 67,op:=Op.binOp BinOp.eql 3 (Operand.tmp 65) (Operand.tmp 66) 3,type:=4,pos := "ref.go:71",after:=#[{ on:=31,ground:=Ground.data },{ on:=32,ground:=Ground.data },{ on:=30,ground:=Ground.guard }],guard:=some (30,false) },
  { dst:=some 68,op:=Op.move (Operand.tmp 67),type:=4,pos := "ref.go:71",after:=#[{ on:=33,ground:=Ground.data },{ on:=30,ground:=Ground.chain },{ on:=30,ground:=Ground.guard }],guard:=some (30,false) },
  { dst:=some 69,op:=Op.move (Operand.tmp 6),type:=4,pos := "ref.go:71",after:=#[{ on:=34,ground:=Ground.guard }],guard:=some (34,true) },
  { dst:=some 70,op:=Op.unOp UnOp.not 4 (Operand.tmp 69),type:=4,pos := "ref.go:71",after:=#[{ on:=35,ground:=Ground.data },{ on:=34,ground:=Ground.guard }],guard:=some (34,true) },
  { dst:=some 71,op:=Op.pick (Operand.tmp 68) (Operand.tmp 70) (Operand.const (Value.bool false)),type:=4,pos := "ref.go:71",after:=#[{ on:=34,ground:=Ground.data },{ on:=36,ground:=Ground.data },{ on:=30,ground:=Ground.guard }],guard:=some (30,false) },
  { dst:=some 72,op:=Op.pick (Operand.tmp 64) (Operand.const (Value.bool true)) (Operand.tmp 71),type:=4,pos := "ref.go:71",after:=#[{ on:=30,ground:=Ground.data },{ on:=37,ground:=Ground.data }],guard:=none },
  { dst:=some 73,op:=Op.call { callee:=Callee.value (Operand.func 99),args:=#[Operand.tmp 59,Operand.tmp 60,Operand.tmp 72],argTypes:=#[34,3,4] },type:=9,pos := "ref.go:71",after:=#[{ on:=25,ground:=Ground.data },{ on:=26,ground:=Ground.data },{ on:=38,ground:=Ground.data },{ on:=34,ground:=Ground.chain }],guard:=none },
  { dst:=some 74,op:=Op.binOp BinOp.add 9 (Operand.tmp 55) (Operand.tmp 73) 9,type:=9,pos := "ref.go:71",after:=#[{ on:=21,ground:=Ground.data },{ on:=39,ground:=Ground.data }],guard:=none },
  { dst:=some 4,op:=Op.assign (Operand.tmp 74),type:=9,pos := "ref.go:71",after:=#[{ on:=40,ground:=Ground.data },{ on:=39,ground:=Ground.chain },{ on:=0,ground:=Ground.phase },{ on:=1,ground:=Ground.phase },{ on:=2,ground:=Ground.phase },{ on:=3,ground:=Ground.phase },{ on:=4,ground:=Ground.phase },{ on:=5,ground:=Ground.phase },{ on:=6,ground:=Ground.phase },{ on:=7,ground:=Ground.phase },{ on:=8,ground:=Ground.phase },{ on:=9,ground:=Ground.phase },{ on:=10,ground:=Ground.phase },{ on:=11,ground:=Ground.phase },{ on:=12,ground:=Ground.phase },{ on:=13,ground:=Ground.phase },{ on:=14,ground:=Ground.phase },{ on:=15,ground:=Ground.phase },{ on:=16,ground:=Ground.phase },{ on:=17,ground:=Ground.phase },{ on:=18,ground:=Ground.phase },{ on:=19,ground:=Ground.phase },{ on:=20,ground:=Ground.phase },{ on:=21,ground:=Ground.phase },{ on:=22,ground:=Ground.phase },{ on:=23,ground:=Ground.phase },{ on:=24,ground:=Ground.phase },{ on:=25,ground:=Ground.phase },{ on:=26,ground:=Ground.phase },{ on:=27,ground:=Ground.phase },{ on:=28,ground:=Ground.phase },{ on:=29,ground:=Ground.phase },{ on:=30,ground:=Ground.phase },{ on:=31,ground:=Ground.phase },{ on:=32,ground:=Ground.phase },{ on:=33,ground:=Ground.phase },{ on:=34,ground:=Ground.phase },{ on:=35,ground:=Ground.phase },{ on:=36,ground:=Ground.phase },{ on:=37,ground:=Ground.phase },{ on:=38,ground:=Ground.phase },{ on:=39,ground:=Ground.phase },{ on:=40,ground:=Ground.phase }],guard:=none }]
structure Dc where
  (q b off n c0 k:Nat)
  (VX VY VZ:Value)
  (lx ly lz:Int)
  rg:Bool
def Vt (c:Dc) (s6 s7 s8:ByteArray):Nat→Value
  | 0=>.pointer (some ⟨c.q,6,none⟩)
  | 1=>.slice (some ⟨c.b,c.off,none⟩) c.n c.c0
  | 2=>.pointer (some ⟨c.b,c.off,none⟩)
  | 3=>c.VY
  | 4=>.int .i64 c.k
  | 5=>.int .i64 c.ly
  | 6=>.int .i64 c.lx
  | 7=>.bool (decide (c.ly<c.lx))
  | 8=>.bool (decide (c.ly<c.lx))
  | 9=>if decide (c.ly<c.lx)=true then undef else .int .i64 c.ly
  | 10=>if decide (c.ly<c.lx)=true then undef else .int .i64 c.lx
  | 11=>if decide (c.ly<c.lx)=true then undef else .bool (c.ly==c.lx)
  | 12=>if decide (c.ly<c.lx)=true then undef else .bool (c.ly==c.lx)
  | 13=>if (!decide (c.ly<c.lx) && (c.ly==c.lx))=true then .bool c.rg else undef
  | 14=>if decide (c.ly<c.lx)=true then undef else .bool ((c.ly==c.lx) && c.rg)
  | 15=>.bool (decide (c.ly<c.lx) || ((c.ly==c.lx) && c.rg))
  | 16=>.string s6
  | 17=>.string (s6++⟨#[32]⟩)
  | 18=>c.VX
  | 19=>.string s7
  | 20=>.string (s6++⟨#[32]⟩++s7)
  | 21=>.string (s6++⟨#[32]⟩++s7++⟨#[32]⟩)
  | 22=>.pointer (some ⟨c.q,6,none⟩)
  | 23=>.slice (some ⟨c.b,c.off,none⟩) c.n c.c0
  | 24=>.pointer (some ⟨c.b,c.off+8,none⟩)
  | 25=>c.VZ
  | 26=>.int .i64 c.k
  | 27=>.int .i64 c.lz
  | 28=>.int .i64 c.lx
  | 29=>.bool (decide (c.lz<c.lx))
  | 30=>.bool (decide (c.lz<c.lx))
  | 31=>if decide (c.lz<c.lx)=true then undef else .int .i64 c.lz
  | 32=>if decide (c.lz<c.lx)=true then undef else .int .i64 c.lx
  | 33=>if decide (c.lz<c.lx)=true then undef else .bool (c.lz==c.lx)
  | 34=>if decide (c.lz<c.lx)=true then undef else .bool (c.lz==c.lx)
  | 35=>if (!decide (c.lz<c.lx) && (c.lz==c.lx))=true then .bool c.rg else undef
  | 36=>if (!decide (c.lz<c.lx) && (c.lz==c.lx))=true then .bool (!c.rg) else undef
  | 37=>if decide (c.lz<c.lx)=true then undef else .bool ((c.lz==c.lx) && !c.rg)
  | 38=>.bool (decide (c.lz<c.lx) || ((c.lz==c.lx) && !c.rg))
  | 39=>.string s8
  | 40=>.string (s6++⟨#[32]⟩++s7++⟨#[32]⟩++s8)
  | 41=>.string (s6++⟨#[32]⟩++s7++⟨#[32]⟩++s8)
  | _=>undef
def Qa:Nat→List Nat
  | 16=>[16]
  | 17=>[16]
  | 19=>[19]
  | 20=>[16,19]
  | 21=>[16,19]
  | 39=>[39]
  | 40=>[16,19,39]
  | 41=>[16,19,39]
  | _=>[]
def zV (i:Nat):Nat:=if i=41 then 4 else 34+i
structure Z0 (a0 a:Act) (X:Nat→Value):Prop where
  defers:a.defers=a0.defers
  size:a.tmps.size=a0.tmps.size
  other:∀ j,j≠4→¬ (34≤j∧j≤74)→a.tmps[j]?=a0.tmps[j]?
  at_:∀ i,i<42→a.tmps[zV i]?=some (X i)
theorem Z0.put {a0 a:Act} {X:Nat→Value} (h:Z0 a0 a X) (hs:75≤a0.tmps.size) (d:Nat) (v:Value) (hd:d<42):Z0 a0 (a.put (some (zV d)) v) (upd X d v):=by
  refine ⟨h.defers,by simp [Act.put,h.size],fun j h1 h2=>?_,fun j hj=>?_⟩
  · have hne:zV d≠j:=by unfold zV;split <;> omega
    show (a.tmps.setIfInBounds (zV d) v)[j]?=_;rw [Array.getElem?_setIfInBounds_ne hne,h.other j h1 h2]
  · show (a.tmps.setIfInBounds (zV d) v)[zV j]?=_;by_cases hne:d=j
    · subst hne;have hz:=h.size;have hl:zV d<a.tmps.size:=by unfold zV;split <;> omega
      rw [Array.getElem?_setIfInBounds_self,Qh,if_pos hl]
    · have hne2:zV d≠zV j:=by unfold zV;split <;> split <;> omega
      rw [Array.getElem?_setIfInBounds_ne hne2,h.at_ j hj,qP (Ne.symm hne)]
structure Qn (c:Dc) (T6 T7 T8:Bs) (a0:Act) (w1:World) (l:Array Bool) (a:Act) (w:World):Prop where
  size:l.size=42
  below:Below w1.heap.size w1 w
  vals:∃ (X:Nat→Value) (s6 s7 s8:ByteArray),Z0 a0 a X∧(∀ i,l[i]?=some true→X i=Vt c s6 s7 s8 i∧∀ j ∈ Qa i,l[j]?=some true)∧(l[16]?=some true→Zg s6=T6)∧(l[19]?=some true→Zg s7=T7)∧(l[39]?=some true→Zg s8=T8)
theorem jk {l:Array Bool} {i:Nat} (h:i<l.size):(l.setIfInBounds i true)[i]?=some true:=by rw [Array.getElem?_setIfInBounds_self,if_pos h]
theorem Xa {l:Array Bool} {i k:Nat} (h:(l.setIfInBounds i true)[k]?=some true):k=i∨l[k]?=some true:=by
  by_cases hk:i=k
  · exact .inl hk.symm
  · rw [QW hk] at h;exact .inr h
theorem Vu {l:Array Bool} {i k:Nat} (hi:i<l.size) (h:l[k]?=some true∨k=i):(l.setIfInBounds i true)[k]?=some true:=by
  by_cases hk:i=k
  · subst hk;exact jk hi
  · rw [QW hk];rcases h with h|h
    · exact h
    · exact absurd h.symm hk
section
variable {c:Dc} {T6 T7 T8:Bs} {a0 a:Act} {w1 w w':World} {l:Array Bool} {X:Nat→Value} {s6 s7 s8 s':ByteArray}
theorem Qn.next (hz:l.size=42) (hF:Z0 a0 a X) (hV:∀ i,l[i]?=some true→X i=Vt c s6 s7 s8 i∧∀ j ∈ Qa i,l[j]?=some true) (h6:l[16]?=some true→Zg s6=T6) (h7:l[19]?=some true→Zg s7=T7) (h8:l[39]?=some true→Zg s8=T8) (hs:75≤a0.tmps.size)
    (i:Nat) (hi:i<42) (hb:Below w1.heap.size w1 w') (v:Value) (hv:v=Vt c s6 s7 s8 i) (hd:∀ j ∈ Qa i,j=i∨l[j]?=some true∨j=i) (n6:i≠16) (n7:i≠19) (n8:i≠39):Qn c T6 T7 T8 a0 w1 (l.setIfInBounds i true) (a.put (some (zV i)) v) w':=by
  have hil:i<l.size:=by omega
  refine ⟨by simp [hz],hb,upd X i v,s6,s7,s8,hF.put hs i v hi,fun k hk=>?_,fun h=>h6 (by rwa [QW n6] at h),fun h=>h7 (by rwa [QW n7] at h),fun h=>h8 (by rwa [QW n8] at h)⟩;rcases Xa hk with rfl|hk
  · exact ⟨by rw [Qh,hv],fun j hj=>Vu hil (by rcases hd j hj with h|h|h <;> first|exact .inr h|exact .inl h)⟩
  · by_cases hki:k=i
    · subst hki;exact ⟨by rw [Qh,hv],fun j hj=>Vu hil (by rcases hd j hj with h|h|h <;> first|exact .inr h|exact .inl h)⟩
    · exact ⟨by rw [qP hki];exact (hV k hk).1,fun j hj=>Vu hil (.inl ((hV k hk).2 j hj))⟩
theorem Xq {k:Nat} (h:42≤k):Vt c s6 s7 s8 k=undef:=by
  obtain ⟨m,rfl⟩:∃ m,k=m+42:=⟨k - 42,by omega⟩
  rfl
theorem Y2 {k:Nat} (h:k<42):k=0∨k=1∨k=2∨k=3∨k=4∨k=5∨k=6∨k=7∨k=8∨k=9∨k=10∨k=11∨k=12∨k=13∨k=14∨k=15∨k=16∨k=17∨k=18∨k=19∨k=20∨k=21∨k=22∨k=23∨k=24∨k=25∨k=26∨k=27∨k=28∨k=29∨k=30∨k=31∨k=32∨k=33∨k=34∨k=35∨k=36∨k=37∨k=38∨k=39∨k=40∨k=41:=by omega
theorem Xy {P:Prop} (h:P:=by
  rcases Nat.lt_or_ge k 42 with hk|hk
  · rcases Y2 hk with rfl|rfl|rfl|rfl|rfl|rfl|rfl|rfl|rfl|rfl|rfl|rfl|rfl|rfl|rfl|rfl|rfl|rfl|rfl|rfl|rfl|rfl|rfl|rfl|rfl|rfl|rfl|rfl|rfl|rfl|rfl|rfl|rfl|rfl|rfl|rfl|rfl|rfl|rfl|rfl|rfl|rfl <;> first|rfl|exact absurd (by decide) h
  · rw [Xq hk,Xq hk]):P:=h
theorem Xn {k:Nat} (h:16 ∉ Qa k):Vt c s6 s7 s8 k=Vt c s' s7 s8 k:=by
  exact Xy
theorem Xo {k:Nat} (h:19 ∉ Qa k):Vt c s6 s7 s8 k=Vt c s6 s' s8 k:=by
  exact Xy
theorem Xp {k:Nat} (h:39 ∉ Qa k):Vt c s6 s7 s8 k=Vt c s6 s7 s' k:=by
  exact Xy
theorem Qn.call6 (hz:l.size=42) (hF:Z0 a0 a X) (hV:∀ i,l[i]?=some true→X i=Vt c s6 s7 s8 i∧∀ j ∈ Qa i,l[j]?=some true) (h6:l[16]?=some true→Zg s6=T6) (h7:l[19]?=some true→Zg s7=T7) (h8:l[39]?=some true→Zg s8=T8) (hs:75≤a0.tmps.size)
    (hn:l[16]?≠some true) (hb:Below w1.heap.size w1 w') (hs':Zg s'=T6) (hd:∀ j ∈ Qa 16,j=16∨l[j]?=some true∨j=16):Qn c T6 T7 T8 a0 w1 (l.setIfInBounds 16 true) (a.put (some (zV 16)) (.string s')) w':=by
  have hil:16<l.size:=by omega
  have hme:∀ j ∈ Qa 16,(l.setIfInBounds 16 true)[j]?=some true:=fun j hj=>Vu hil (by rcases hd j hj with h|h|h <;> first|exact .inr h|exact .inl h);refine ⟨by simp [hz],hb,upd X 16 (.string s'),s',s7,s8,hF.put hs 16 _ (by decide),fun k hk=>?_,fun _=>hs',fun h=>h7 (by rwa [QW (by decide)] at h),fun h=>h8 (by rwa [QW (by decide)] at h)⟩;by_cases hki:k=16
  · subst hki;exact ⟨by rw [Qh];rfl,hme⟩
  · have hk2:l[k]?=some true:=by rw [QW (Ne.symm hki)] at hk;exact hk
    exact ⟨by rw [qP hki,(hV k hk2).1];exact Xn (fun h9=>hn ((hV k hk2).2 _ h9)),fun j hj=>Vu hil (.inl ((hV k hk2).2 j hj))⟩
theorem Qn.call7 (hz:l.size=42) (hF:Z0 a0 a X) (hV:∀ i,l[i]?=some true→X i=Vt c s6 s7 s8 i∧∀ j ∈ Qa i,l[j]?=some true) (h6:l[16]?=some true→Zg s6=T6) (h7:l[19]?=some true→Zg s7=T7) (h8:l[39]?=some true→Zg s8=T8) (hs:75≤a0.tmps.size)
    (hn:l[19]?≠some true) (hb:Below w1.heap.size w1 w') (hs':Zg s'=T7) (hd:∀ j ∈ Qa 19,j=19∨l[j]?=some true∨j=19):Qn c T6 T7 T8 a0 w1 (l.setIfInBounds 19 true) (a.put (some (zV 19)) (.string s')) w':=by
  have hil:19<l.size:=by omega
  have hme:∀ j ∈ Qa 19,(l.setIfInBounds 19 true)[j]?=some true:=fun j hj=>Vu hil (by rcases hd j hj with h|h|h <;> first|exact .inr h|exact .inl h);refine ⟨by simp [hz],hb,upd X 19 (.string s'),s6,s',s8,hF.put hs 19 _ (by decide),fun k hk=>?_,fun h=>h6 (by rwa [QW (by decide)] at h),fun _=>hs',fun h=>h8 (by rwa [QW (by decide)] at h)⟩;by_cases hki:k=19
  · subst hki;exact ⟨by rw [Qh];rfl,hme⟩
  · have hk2:l[k]?=some true:=by rw [QW (Ne.symm hki)] at hk;exact hk
    exact ⟨by rw [qP hki,(hV k hk2).1];exact Xo (fun h9=>hn ((hV k hk2).2 _ h9)),fun j hj=>Vu hil (.inl ((hV k hk2).2 j hj))⟩
theorem Qn.call8 (hz:l.size=42) (hF:Z0 a0 a X) (hV:∀ i,l[i]?=some true→X i=Vt c s6 s7 s8 i∧∀ j ∈ Qa i,l[j]?=some true) (h6:l[16]?=some true→Zg s6=T6) (h7:l[19]?=some true→Zg s7=T7) (h8:l[39]?=some true→Zg s8=T8) (hs:75≤a0.tmps.size)
    (hn:l[39]?≠some true) (hb:Below w1.heap.size w1 w') (hs':Zg s'=T8) (hd:∀ j ∈ Qa 39,j=39∨l[j]?=some true∨j=39):Qn c T6 T7 T8 a0 w1 (l.setIfInBounds 39 true) (a.put (some (zV 39)) (.string s')) w':=by
  have hil:39<l.size:=by omega
  have hme:∀ j ∈ Qa 39,(l.setIfInBounds 39 true)[j]?=some true:=fun j hj=>Vu hil (by rcases hd j hj with h|h|h <;> first|exact .inr h|exact .inl h);refine ⟨by simp [hz],hb,upd X 39 (.string s'),s6,s7,s',hF.put hs 39 _ (by decide),fun k hk=>?_,fun h=>h6 (by rwa [QW (by decide)] at h),fun h=>h7 (by rwa [QW (by decide)] at h),fun _=>hs'⟩;by_cases hki:k=39
  · subst hki;exact ⟨by rw [Qh];rfl,hme⟩
  · have hk2:l[k]?=some true:=by rw [QW (Ne.symm hki)] at hk;exact hk
    exact ⟨by rw [qP hki,(hV k hk2).1];exact Xp (fun h9=>hn ((hV k hk2).2 _ h9)),fun j hj=>Vu hil (.inl ((hV k hk2).2 j hj))⟩
end
theorem Zz {l:Array Bool} {o:Option Oper} (h:(o.map (·.after.all fun e => !Region.binds .any e || l.getD e.on false)).getD false=true) (e:Edge) {oo:Oper} (ho:o=some oo:=by rfl) (he:e ∈ oo.after.toList) (hb:Region.binds .any e=true):l[e.on]?=some true:=by
  subst ho;have h9:(oo.after.all fun e => !Region.binds .any e || l.getD e.on false)=true:=h;rw [←Array.all_toList,List.all_eq_true] at h9;have:=h9 e he;rw [hb] at this;exact VU (by simpa using this)
theorem jI {Q:Exit→Act→World→Prop} {T6 T7 T8:Bs} {x y z:Ex} {dy dz:EA} {fa0:Option Addr} {q b off c0 fc0 k:Nat} {lx ly lz:Int} {rg:Bool} {a0:Act} {w1:World} (hs:75≤a0.tmps.size)
    (hi1:a0.tmps[1]?=some (.int .i64 k)) (hi2:a0.tmps[2]?=some (.pointer (some ⟨q,0,none⟩))) (hi5:a0.tmps[5]?=some (.int .i64 lx)) (hi6:a0.tmps[6]?=some (.bool rg)) (hi7:a0.tmps[7]?=some (.int .i64 ly)) (hi8:a0.tmps[8]?=some (.int .i64 lz))
    (hn2:(1:Int)<(x.args.length:Int)∧1<x.args.length∧0<x.args.length∧x.args.length≤c0∧c0≤9223372036854775807)
    (hS:∀ w',Below w1.heap.size w1 w'→XB x ⟨some ⟨b,off,none⟩,c0,fa0,fc0⟩ q w'∧Y0 w' b off y dy∧Y1 w' b off z dz)
    (HBY:∀ br w',br=(decide (ly<lx) || (ly==lx && rg))→Below w1.heap.size w1 w'→Calls Tryz.prog 99 #[.agg #[.int .i64 y.kind,.int .i64 y.op,.int .i64 y.line,.int .i64 y.p,.int .i64 y.q,.string y.str,.slice dy.a y.args.length dy.c,.slice dy.fa y.funcs.length dy.fc],.int .i64 k,.bool br] w' (RS T6 w')) (HOP:∀ w',Calls Tryz.prog 103 #[.agg #[.int .i64 x.kind,.int .i64 x.op,.int .i64 x.line,.int .i64 x.p,.int .i64 x.q,.string x.str,.slice ((⟨some ⟨b,off,none⟩,c0,fa0,fc0⟩:EA)).a x.args.length ((⟨some ⟨b,off,none⟩,c0,fa0,fc0⟩:EA)).c,.slice ((⟨some ⟨b,off,none⟩,c0,fa0,fc0⟩:EA)).fa x.funcs.length ((⟨some ⟨b,off,none⟩,c0,fa0,fc0⟩:EA)).fc]] w' (RS T7 w')) (HBZ:∀ br w',br=(decide (lz<lx) || (lz==lx && !rg))→Below w1.heap.size w1 w'→Calls Tryz.prog 99 #[.agg #[.int .i64 z.kind,.int .i64 z.op,.int .i64 z.line,.int .i64 z.p,.int .i64 z.q,.string z.str,.slice dz.a z.args.length dz.c,.slice dz.fa z.funcs.length dz.fc],.int .i64 k,.bool br] w' (RS T8 w'))
    (z6:T6.length≤1125899906842626) (z7:T7.length≤4) (z8:T8.length≤1125899906842626)
    (l:Array Bool) (a:Act) (w:World) (i:Nat) (hIt:Qn ⟨q,b,off,x.args.length,c0,k,.agg #[.int .i64 x.kind,.int .i64 x.op,.int .i64 x.line,.int .i64 x.p,.int .i64 x.q,.string x.str,.slice ((⟨some ⟨b,off,none⟩,c0,fa0,fc0⟩:EA)).a x.args.length ((⟨some ⟨b,off,none⟩,c0,fa0,fc0⟩:EA)).c,.slice ((⟨some ⟨b,off,none⟩,c0,fa0,fc0⟩:EA)).fa x.funcs.length ((⟨some ⟨b,off,none⟩,c0,fa0,fc0⟩:EA)).fc],.agg #[.int .i64 y.kind,.int .i64 y.op,.int .i64 y.line,.int .i64 y.p,.int .i64 y.q,.string y.str,.slice dy.a y.args.length dy.c,.slice dy.fa y.funcs.length dy.fc],.agg #[.int .i64 z.kind,.int .i64 z.op,.int .i64 z.line,.int .i64 z.p,.int .i64 z.q,.string z.str,.slice dz.a z.args.length dz.c,.slice dz.fa z.funcs.length dz.fc],lx,ly,lz,rg⟩ T6 T7 T8 a0 w1 l a w) (hi:i ∈ Region.ready .any Qw l) :
    wpOp Tryz.prog Qw Q i (Qn ⟨q,b,off,x.args.length,c0,k,.agg #[.int .i64 x.kind,.int .i64 x.op,.int .i64 x.line,.int .i64 x.p,.int .i64 x.q,.string x.str,.slice ((⟨some ⟨b,off,none⟩,c0,fa0,fc0⟩:EA)).a x.args.length ((⟨some ⟨b,off,none⟩,c0,fa0,fc0⟩:EA)).c,.slice ((⟨some ⟨b,off,none⟩,c0,fa0,fc0⟩:EA)).fa x.funcs.length ((⟨some ⟨b,off,none⟩,c0,fa0,fc0⟩:EA)).fc],.agg #[.int .i64 y.kind,.int .i64 y.op,.int .i64 y.line,.int .i64 y.p,.int .i64 y.q,.string y.str,.slice dy.a y.args.length dy.c,.slice dy.fa y.funcs.length dy.fc],.agg #[.int .i64 z.kind,.int .i64 z.op,.int .i64 z.line,.int .i64 z.p,.int .i64 z.q,.string z.str,.slice dz.a z.args.length dz.c,.slice dz.fa z.funcs.length dz.fc],lx,ly,lz,rg⟩ T6 T7 T8 a0 w1 (l.setIfInBounds i true)) a w:=by
  obtain ⟨h1,h2,h3⟩:=vo hi;have hi42:i<42:=h1;obtain ⟨hz,hb,X,s6,s7,s8,hF,hV,h6,h7,h8⟩:=hIt
  have hn:l[i]?≠some true:=by
    intro hq;rw [Array.getD_eq_getD_getElem?,hq] at h2;cases h2
  clear h1 h2 hi;rcases Y2 hi42 with rfl|rfl|rfl|rfl|rfl|rfl|rfl|rfl|rfl|rfl|rfl|rfl|rfl|rfl|rfl|rfl|rfl|rfl|rfl|rfl|rfl|rfl|rfl|rfl|rfl|rfl|rfl|rfl|rfl|rfl|rfl|rfl|rfl|rfl|rfl|rfl|rfl|rfl|rfl|rfl|rfl|rfl
  · have i2:a.tmps[2]?=some (.pointer (some ⟨q,0,none⟩)):=(hF.other 2 (by decide) (by decide)).trans hi2;refine wpOp_step (o:=Qw[0]) rfl (fun K hK=>?_);rw [if_pos (by rfl)]
    go_simp
    exact hK _ _ (Qn.next hz hF hV h6 h7 h8 hs 0 (by decide) hb _ (rfl) (fun j hj=>by simp [Qa] at hj) (by decide) (by decide) (by decide))
  · have l0:=Zz h3 { on:=0,ground:=Ground.data } (he:=by simp) (hb:=by rfl);have e0:a.tmps[34]?=some (.pointer (some ⟨q,6,none⟩)):=(hF.at_ 0 (by decide)).trans (congrArg some (hV 0 l0).1);obtain ⟨⟨-,kb⟩,-⟩:=hS w hb;refine wpOp_step (o:=Qw[1]) rfl (fun K hK=>?_);rw [if_pos (by rfl)]
    go_simp
    exact hK _ _ (Qn.next hz hF hV h6 h7 h8 hs 1 (by decide) hb _ (rfl) (fun j hj=>by simp [Qa] at hj) (by decide) (by decide) (by decide))
  · have l1:=Zz h3 { on:=1,ground:=Ground.data } (he:=by simp) (hb:=by rfl);have e1:a.tmps[35]?=some (.slice (some ⟨b,off,none⟩) x.args.length c0):=(hF.at_ 1 (by decide)).trans (congrArg some (hV 1 l1).1);refine wpOp_step (o:=Qw[2]) rfl (fun K hK=>?_);rw [if_pos (by rfl)]
    go_simp
    exact hK _ _ (Qn.next hz hF hV h6 h7 h8 hs 2 (by decide) hb _ (rfl) (fun j hj=>by simp [Qa] at hj) (by decide) (by decide) (by decide))
  · have l2:=Zz h3 { on:=2,ground:=Ground.data } (he:=by simp) (hb:=by rfl);have e2:a.tmps[36]?=some (.pointer (some ⟨b,off,none⟩)):=(hF.at_ 2 (by decide)).trans (congrArg some (hV 2 l2).1);obtain ⟨-,⟨y0,y1,y2,y3,y4,y5,y6,y7⟩,-⟩:=hS w hb;refine wpOp_step (o:=Qw[3]) rfl (fun K hK=>?_);rw [if_pos (by rfl)]
    go_simp
    exact hK _ _ (Qn.next hz hF hV h6 h7 h8 hs 3 (by decide) hb _ (rfl) (fun j hj=>by simp [Qa] at hj) (by decide) (by decide) (by decide))
  · have i1:a.tmps[1]?=some (.int .i64 k):=(hF.other 1 (by decide) (by decide)).trans hi1;refine wpOp_step (o:=Qw[4]) rfl (fun K hK=>?_);rw [if_pos (by rfl)]
    go_simp
    exact hK _ _ (Qn.next hz hF hV h6 h7 h8 hs 4 (by decide) hb _ (rfl) (fun j hj=>by simp [Qa] at hj) (by decide) (by decide) (by decide))
  · have i7:a.tmps[7]?=some (.int .i64 ly):=(hF.other 7 (by decide) (by decide)).trans hi7;refine wpOp_step (o:=Qw[5]) rfl (fun K hK=>?_);rw [if_pos (by rfl)]
    go_simp
    exact hK _ _ (Qn.next hz hF hV h6 h7 h8 hs 5 (by decide) hb _ (rfl) (fun j hj=>by simp [Qa] at hj) (by decide) (by decide) (by decide))
  · have i5:a.tmps[5]?=some (.int .i64 lx):=(hF.other 5 (by decide) (by decide)).trans hi5;refine wpOp_step (o:=Qw[6]) rfl (fun K hK=>?_);rw [if_pos (by rfl)]
    go_simp
    exact hK _ _ (Qn.next hz hF hV h6 h7 h8 hs 6 (by decide) hb _ (rfl) (fun j hj=>by simp [Qa] at hj) (by decide) (by decide) (by decide))
  · have l5:=Zz h3 { on:=5,ground:=Ground.data } (he:=by simp) (hb:=by rfl);have l6:=Zz h3 { on:=6,ground:=Ground.data } (he:=by simp) (hb:=by rfl);have e5:a.tmps[39]?=some (.int .i64 ly):=(hF.at_ 5 (by decide)).trans (congrArg some (hV 5 l5).1);have e6:a.tmps[40]?=some (.int .i64 lx):=(hF.at_ 6 (by decide)).trans (congrArg some (hV 6 l6).1);refine wpOp_step (o:=Qw[7]) rfl (fun K hK=>?_);rw [if_pos (by rfl)]
    go_simp
    exact hK _ _ (Qn.next hz hF hV h6 h7 h8 hs 7 (by decide) hb _ (by simp [Vt]) (fun j hj=>by simp [Qa] at hj) (by decide) (by decide) (by decide))
  · have l7:=Zz h3 { on:=7,ground:=Ground.data } (he:=by simp) (hb:=by rfl);have e7:a.tmps[41]?=some (.bool (decide (ly<lx))):=(hF.at_ 7 (by decide)).trans (congrArg some (hV 7 l7).1);refine wpOp_step (o:=Qw[8]) rfl (fun K hK=>?_);rw [if_pos (by rfl)]
    go_simp
    exact hK _ _ (Qn.next hz hF hV h6 h7 h8 hs 8 (by decide) hb _ (rfl) (fun j hj=>by simp [Qa] at hj) (by decide) (by decide) (by decide))
  · have l8:=Zz h3 { on:=8,ground:=Ground.guard } (he:=by simp) (hb:=by rfl);have i7:a.tmps[7]?=some (.int .i64 ly):=(hF.other 7 (by decide) (by decide)).trans hi7;have e8:a.tmps[42]?=some (.bool (decide (ly<lx))):=(hF.at_ 8 (by decide)).trans (congrArg some (hV 8 l8).1);cases hu:decide (ly<lx) <;> cases hu2:(ly==lx)
    all_goals
      simp only [hu,hu2,Bool.not_true,Bool.not_false,Bool.true_and,Bool.false_and,Bool.and_true,Bool.and_false,Bool.false_eq_true,if_true,if_false,Bool.or_false,Bool.or_true,Bool.true_or,Bool.false_or] at e8;refine wpOp_step (o:=Qw[9]) rfl (fun K hK=>?_);simp [Region.wanted,yielded,e8]
      try go_simp
      exact hK _ _ (Qn.next hz hF hV h6 h7 h8 hs 9 (by decide) hb _ (by simp [Vt,hu,hu2]) (fun j hj=>by simp [Qa] at hj) (by decide) (by decide) (by decide))
  · have l8:=Zz h3 { on:=8,ground:=Ground.guard } (he:=by simp) (hb:=by rfl);have i5:a.tmps[5]?=some (.int .i64 lx):=(hF.other 5 (by decide) (by decide)).trans hi5;have e8:a.tmps[42]?=some (.bool (decide (ly<lx))):=(hF.at_ 8 (by decide)).trans (congrArg some (hV 8 l8).1);cases hu:decide (ly<lx) <;> cases hu2:(ly==lx)
    all_goals
      simp only [hu,hu2,Bool.not_true,Bool.not_false,Bool.true_and,Bool.false_and,Bool.and_true,Bool.and_false,Bool.false_eq_true,if_true,if_false,Bool.or_false,Bool.or_true,Bool.true_or,Bool.false_or] at e8;refine wpOp_step (o:=Qw[10]) rfl (fun K hK=>?_);simp [Region.wanted,yielded,e8]
      try go_simp
      exact hK _ _ (Qn.next hz hF hV h6 h7 h8 hs 10 (by decide) hb _ (by simp [Vt,hu,hu2]) (fun j hj=>by simp [Qa] at hj) (by decide) (by decide) (by decide))
  · have l9:=Zz h3 { on:=9,ground:=Ground.data } (he:=by simp) (hb:=by rfl);have l10:=Zz h3 { on:=10,ground:=Ground.data } (he:=by simp) (hb:=by rfl);have l8:=Zz h3 { on:=8,ground:=Ground.guard } (he:=by simp) (hb:=by rfl);have e9:a.tmps[43]?=some (if decide (ly<lx)=true then undef else .int .i64 ly):=(hF.at_ 9 (by decide)).trans (congrArg some (hV 9 l9).1);have e10:a.tmps[44]?=some (if decide (ly<lx)=true then undef else .int .i64 lx):=(hF.at_ 10 (by decide)).trans (congrArg some (hV 10 l10).1);have e8:a.tmps[42]?=some (.bool (decide (ly<lx))):=(hF.at_ 8 (by decide)).trans (congrArg some (hV 8 l8).1);cases hu:decide (ly<lx) <;> cases hu2:(ly==lx)
    all_goals
      simp only [hu,hu2,Bool.not_true,Bool.not_false,Bool.true_and,Bool.false_and,Bool.and_true,Bool.and_false,Bool.false_eq_true,if_true,if_false,Bool.or_false,Bool.or_true,Bool.true_or,Bool.false_or] at e9 e10 e8;refine wpOp_step (o:=Qw[11]) rfl (fun K hK=>?_);simp [Region.wanted,yielded,e8]
      try go_simp
      exact hK _ _ (Qn.next hz hF hV h6 h7 h8 hs 11 (by decide) hb _ (by simp [Vt,hu,hu2]) (fun j hj=>by simp [Qa] at hj) (by decide) (by decide) (by decide))
  · have l11:=Zz h3 { on:=11,ground:=Ground.data } (he:=by simp) (hb:=by rfl);have l8:=Zz h3 { on:=8,ground:=Ground.chain } (he:=by simp) (hb:=by rfl);have e11:a.tmps[45]?=some (if decide (ly<lx)=true then undef else .bool (ly==lx)):=(hF.at_ 11 (by decide)).trans (congrArg some (hV 11 l11).1);have e8:a.tmps[42]?=some (.bool (decide (ly<lx))):=(hF.at_ 8 (by decide)).trans (congrArg some (hV 8 l8).1);cases hu:decide (ly<lx) <;> cases hu2:(ly==lx)
    all_goals
      simp only [hu,hu2,Bool.not_true,Bool.not_false,Bool.true_and,Bool.false_and,Bool.and_true,Bool.and_false,Bool.false_eq_true,if_true,if_false,Bool.or_false,Bool.or_true,Bool.true_or,Bool.false_or] at e11 e8;refine wpOp_step (o:=Qw[12]) rfl (fun K hK=>?_);simp [Region.wanted,yielded,e8]
      try go_simp
      exact hK _ _ (Qn.next hz hF hV h6 h7 h8 hs 12 (by decide) hb _ (by simp [Vt,hu,hu2]) (fun j hj=>by simp [Qa] at hj) (by decide) (by decide) (by decide))
  · have l12:=Zz h3 { on:=12,ground:=Ground.guard } (he:=by simp) (hb:=by rfl);have i6:a.tmps[6]?=some (.bool rg):=(hF.other 6 (by decide) (by decide)).trans hi6;have e12:a.tmps[46]?=some (if decide (ly<lx)=true then undef else .bool (ly==lx)):=(hF.at_ 12 (by decide)).trans (congrArg some (hV 12 l12).1);cases hu:decide (ly<lx) <;> cases hu2:(ly==lx)
    all_goals
      simp only [hu,hu2,Bool.not_true,Bool.not_false,Bool.true_and,Bool.false_and,Bool.and_true,Bool.and_false,Bool.false_eq_true,if_true,if_false,Bool.or_false,Bool.or_true,Bool.true_or,Bool.false_or] at e12;refine wpOp_step (o:=Qw[13]) rfl (fun K hK=>?_);simp [Region.wanted,yielded,e12]
      try go_simp
      exact hK _ _ (Qn.next hz hF hV h6 h7 h8 hs 13 (by decide) hb _ (by simp [Vt,hu,hu2]) (fun j hj=>by simp [Qa] at hj) (by decide) (by decide) (by decide))
  · have l12:=Zz h3 { on:=12,ground:=Ground.data } (he:=by simp) (hb:=by rfl);have l13:=Zz h3 { on:=13,ground:=Ground.data } (he:=by simp) (hb:=by rfl);have l8:=Zz h3 { on:=8,ground:=Ground.guard } (he:=by simp) (hb:=by rfl);have e12:a.tmps[46]?=some (if decide (ly<lx)=true then undef else .bool (ly==lx)):=(hF.at_ 12 (by decide)).trans (congrArg some (hV 12 l12).1);have e13:a.tmps[47]?=some (if (!decide (ly<lx) && (ly==lx))=true then .bool rg else undef):=(hF.at_ 13 (by decide)).trans (congrArg some (hV 13 l13).1);have e8:a.tmps[42]?=some (.bool (decide (ly<lx))):=(hF.at_ 8 (by decide)).trans (congrArg some (hV 8 l8).1);cases hu:decide (ly<lx) <;> cases hu2:(ly==lx)
    all_goals
      simp only [hu,hu2,Bool.not_true,Bool.not_false,Bool.true_and,Bool.false_and,Bool.and_true,Bool.and_false,Bool.false_eq_true,if_true,if_false,Bool.or_false,Bool.or_true,Bool.true_or,Bool.false_or] at e12 e13 e8;refine wpOp_step (o:=Qw[14]) rfl (fun K hK=>?_);simp [Region.wanted,yielded,e8]
      try go_simp
      exact hK _ _ (Qn.next hz hF hV h6 h7 h8 hs 14 (by decide) hb _ (by simp [Vt,hu,hu2]) (fun j hj=>by simp [Qa] at hj) (by decide) (by decide) (by decide))
  · have l8:=Zz h3 { on:=8,ground:=Ground.data } (he:=by simp) (hb:=by rfl);have l14:=Zz h3 { on:=14,ground:=Ground.data } (he:=by simp) (hb:=by rfl);have e8:a.tmps[42]?=some (.bool (decide (ly<lx))):=(hF.at_ 8 (by decide)).trans (congrArg some (hV 8 l8).1);have e14:a.tmps[48]?=some (if decide (ly<lx)=true then undef else .bool ((ly==lx) && rg)):=(hF.at_ 14 (by decide)).trans (congrArg some (hV 14 l14).1);cases hu:decide (ly<lx) <;> cases hu2:(ly==lx)
    all_goals
      simp only [hu,hu2,Bool.true_and,Bool.false_and,Bool.false_eq_true,if_true,if_false] at e8 e14;refine wpOp_step (o:=Qw[15]) rfl (fun K hK=>?_);rw [if_pos (by rfl)]
      go_simp
      exact hK _ _ (Qn.next hz hF hV h6 h7 h8 hs 15 (by decide) hb _ (by simp [Vt,hu,hu2]) (fun j hj=>by simp [Qa] at hj) (by decide) (by decide) (by decide))
  · have l3:=Zz h3 { on:=3,ground:=Ground.data } (he:=by simp) (hb:=by rfl);have l4:=Zz h3 { on:=4,ground:=Ground.data } (he:=by simp) (hb:=by rfl);have l15:=Zz h3 { on:=15,ground:=Ground.data } (he:=by simp) (hb:=by rfl);have e3:a.tmps[37]?=some (.agg #[.int .i64 y.kind,.int .i64 y.op,.int .i64 y.line,.int .i64 y.p,.int .i64 y.q,.string y.str,.slice dy.a y.args.length dy.c,.slice dy.fa y.funcs.length dy.fc]):=(hF.at_ 3 (by decide)).trans (congrArg some (hV 3 l3).1);have e4:a.tmps[38]?=some (.int .i64 k):=(hF.at_ 4 (by decide)).trans (congrArg some (hV 4 l4).1);have e15:a.tmps[49]?=some (.bool (decide (ly<lx) || ((ly==lx) && rg))):=(hF.at_ 15 (by decide)).trans (congrArg some (hV 15 l15).1);refine wpOp_step (o:=Qw[16]) rfl (fun K hK=>?_);rw [if_pos (by rfl)]
    go_simp
    refine (HBY _ w (by first|rfl|simp) hb).mono ?_;rintro e w' ⟨s',hs',rfl,hb'⟩;exact hK _ _ (Qn.call6 hz hF hV h6 h7 h8 hs hn (thru hb' hb) hs' (fun j hj=>by simp [Qa] at hj;subst hj;exact .inl rfl))
  · have l16:=Zz h3 { on:=16,ground:=Ground.data } (he:=by simp) (hb:=by rfl);have e16:a.tmps[50]?=some (.string s6):=(hF.at_ 16 (by decide)).trans (congrArg some (hV 16 l16).1);have dl:∀ i j,l[i]?=some true→j ∈ Qa i→l[j]?=some true:=fun i j h1 h2=>(hV i h1).2 j h2;have w6:=Zo (h6 l16) z6;have g:¬ 9223372036854775807<s6.size+1:=by omega
    refine wpOp_step (o:=Qw[17]) rfl (fun K hK=>?_);rw [if_pos (by rfl)]
    go_simp
    exact hK _ _ (Qn.next hz hF hV h6 h7 h8 hs 17 (by decide) hb _ (rfl) (fun j hj=>by simp [Qa] at hj;subst hj;exact .inr (.inl l16)) (by decide) (by decide) (by decide))
  · have i2:a.tmps[2]?=some (.pointer (some ⟨q,0,none⟩)):=(hF.other 2 (by decide) (by decide)).trans hi2;obtain ⟨⟨-,kb⟩,-⟩:=hS w hb;refine wpOp_step (o:=Qw[18]) rfl (fun K hK=>?_);rw [if_pos (by rfl)]
    go_simp
    exact hK _ _ (Qn.next hz hF hV h6 h7 h8 hs 18 (by decide) hb _ (rfl) (fun j hj=>by simp [Qa] at hj) (by decide) (by decide) (by decide))
  · have l18:=Zz h3 { on:=18,ground:=Ground.data } (he:=by simp) (hb:=by rfl);have l16:=Zz h3 { on:=16,ground:=Ground.chain } (he:=by simp) (hb:=by rfl);have e18:a.tmps[52]?=some (.agg #[.int .i64 x.kind,.int .i64 x.op,.int .i64 x.line,.int .i64 x.p,.int .i64 x.q,.string x.str,.slice ((⟨some ⟨b,off,none⟩,c0,fa0,fc0⟩:EA)).a x.args.length ((⟨some ⟨b,off,none⟩,c0,fa0,fc0⟩:EA)).c,.slice ((⟨some ⟨b,off,none⟩,c0,fa0,fc0⟩:EA)).fa x.funcs.length ((⟨some ⟨b,off,none⟩,c0,fa0,fc0⟩:EA)).fc]):=(hF.at_ 18 (by decide)).trans (congrArg some (hV 18 l18).1);have e16:a.tmps[50]?=some (.string s6):=(hF.at_ 16 (by decide)).trans (congrArg some (hV 16 l16).1);refine wpOp_step (o:=Qw[19]) rfl (fun K hK=>?_);rw [if_pos (by rfl)]
    go_simp
    refine (HOP w).mono ?_;rintro e w' ⟨s',hs',rfl,hb'⟩;exact hK _ _ (Qn.call7 hz hF hV h6 h7 h8 hs hn (thru hb' hb) hs' (fun j hj=>by simp [Qa] at hj;subst hj;exact .inl rfl))
  · have l17:=Zz h3 { on:=17,ground:=Ground.data } (he:=by simp) (hb:=by rfl);have l19:=Zz h3 { on:=19,ground:=Ground.data } (he:=by simp) (hb:=by rfl);have e17:a.tmps[51]?=some (.string (s6++⟨#[32]⟩)):=(hF.at_ 17 (by decide)).trans (congrArg some (hV 17 l17).1);have e19:a.tmps[53]?=some (.string s7):=(hF.at_ 19 (by decide)).trans (congrArg some (hV 19 l19).1);have dl:∀ i j,l[i]?=some true→j ∈ Qa i→l[j]?=some true:=fun i j h1 h2=>(hV i h1).2 j h2;have w6:=Zo (h6 (dl _ _ l17 (by decide))) z6;have w7:=Zo (h7 l19) z7;have g:¬ 9223372036854775807<s6.size+1+s7.size:=by omega
    refine wpOp_step (o:=Qw[20]) rfl (fun K hK=>?_);rw [if_pos (by rfl)]
    go_simp
    exact hK _ _ (Qn.next hz hF hV h6 h7 h8 hs 20 (by decide) hb _ (rfl) (fun j hj=>by simp [Qa] at hj;rcases hj with rfl|rfl <;> first|exact .inr (.inl (dl 17 16 l17 (by decide)))|exact .inr (.inl l19)) (by decide) (by decide) (by decide))
  · have l20:=Zz h3 { on:=20,ground:=Ground.data } (he:=by simp) (hb:=by rfl);have e20:a.tmps[54]?=some (.string (s6++⟨#[32]⟩++s7)):=(hF.at_ 20 (by decide)).trans (congrArg some (hV 20 l20).1);have dl:∀ i j,l[i]?=some true→j ∈ Qa i→l[j]?=some true:=fun i j h1 h2=>(hV i h1).2 j h2;have w6:=Zo (h6 (dl _ _ l20 (by decide))) z6;have w7:=Zo (h7 (dl _ _ l20 (by decide))) z7;have g:¬ 9223372036854775807<s6.size+1+s7.size+1:=by omega
    refine wpOp_step (o:=Qw[21]) rfl (fun K hK=>?_);rw [if_pos (by rfl)]
    go_simp
    exact hK _ _ (Qn.next hz hF hV h6 h7 h8 hs 21 (by decide) hb _ (rfl) (fun j hj=>by simp [Qa] at hj;rcases hj with rfl|rfl <;> first|exact .inr (.inl (dl 20 16 l20 (by decide)))|exact .inr (.inl (dl 20 19 l20 (by decide)))) (by decide) (by decide) (by decide))
  · have i2:a.tmps[2]?=some (.pointer (some ⟨q,0,none⟩)):=(hF.other 2 (by decide) (by decide)).trans hi2;refine wpOp_step (o:=Qw[22]) rfl (fun K hK=>?_);rw [if_pos (by rfl)]
    go_simp
    exact hK _ _ (Qn.next hz hF hV h6 h7 h8 hs 22 (by decide) hb _ (rfl) (fun j hj=>by simp [Qa] at hj) (by decide) (by decide) (by decide))
  · have l22:=Zz h3 { on:=22,ground:=Ground.data } (he:=by simp) (hb:=by rfl);have e22:a.tmps[56]?=some (.pointer (some ⟨q,6,none⟩)):=(hF.at_ 22 (by decide)).trans (congrArg some (hV 22 l22).1);obtain ⟨⟨-,kb⟩,-⟩:=hS w hb;refine wpOp_step (o:=Qw[23]) rfl (fun K hK=>?_);rw [if_pos (by rfl)]
    go_simp
    exact hK _ _ (Qn.next hz hF hV h6 h7 h8 hs 23 (by decide) hb _ (rfl) (fun j hj=>by simp [Qa] at hj) (by decide) (by decide) (by decide))
  · have l23:=Zz h3 { on:=23,ground:=Ground.data } (he:=by simp) (hb:=by rfl);have e23:a.tmps[57]?=some (.slice (some ⟨b,off,none⟩) x.args.length c0):=(hF.at_ 23 (by decide)).trans (congrArg some (hV 23 l23).1);refine wpOp_step (o:=Qw[24]) rfl (fun K hK=>?_);rw [if_pos (by rfl)]
    go_simp
    exact hK _ _ (Qn.next hz hF hV h6 h7 h8 hs 24 (by decide) hb _ (rfl) (fun j hj=>by simp [Qa] at hj) (by decide) (by decide) (by decide))
  · have l24:=Zz h3 { on:=24,ground:=Ground.data } (he:=by simp) (hb:=by rfl);have e24:a.tmps[58]?=some (.pointer (some ⟨b,off+8,none⟩)):=(hF.at_ 24 (by decide)).trans (congrArg some (hV 24 l24).1);obtain ⟨-,-,z0,z1,z2,z3,z4,z5,z6,z7⟩:=hS w hb;refine wpOp_step (o:=Qw[25]) rfl (fun K hK=>?_);rw [if_pos (by rfl)]
    go_simp
    exact hK _ _ (Qn.next hz hF hV h6 h7 h8 hs 25 (by decide) hb _ (rfl) (fun j hj=>by simp [Qa] at hj) (by decide) (by decide) (by decide))
  · have i1:a.tmps[1]?=some (.int .i64 k):=(hF.other 1 (by decide) (by decide)).trans hi1;refine wpOp_step (o:=Qw[26]) rfl (fun K hK=>?_);rw [if_pos (by rfl)]
    go_simp
    exact hK _ _ (Qn.next hz hF hV h6 h7 h8 hs 26 (by decide) hb _ (rfl) (fun j hj=>by simp [Qa] at hj) (by decide) (by decide) (by decide))
  · have i8:a.tmps[8]?=some (.int .i64 lz):=(hF.other 8 (by decide) (by decide)).trans hi8;refine wpOp_step (o:=Qw[27]) rfl (fun K hK=>?_);rw [if_pos (by rfl)]
    go_simp
    exact hK _ _ (Qn.next hz hF hV h6 h7 h8 hs 27 (by decide) hb _ (rfl) (fun j hj=>by simp [Qa] at hj) (by decide) (by decide) (by decide))
  · have i5:a.tmps[5]?=some (.int .i64 lx):=(hF.other 5 (by decide) (by decide)).trans hi5;refine wpOp_step (o:=Qw[28]) rfl (fun K hK=>?_);rw [if_pos (by rfl)]
    go_simp
    exact hK _ _ (Qn.next hz hF hV h6 h7 h8 hs 28 (by decide) hb _ (rfl) (fun j hj=>by simp [Qa] at hj) (by decide) (by decide) (by decide))
  · have l27:=Zz h3 { on:=27,ground:=Ground.data } (he:=by simp) (hb:=by rfl);have l28:=Zz h3 { on:=28,ground:=Ground.data } (he:=by simp) (hb:=by rfl);have e27:a.tmps[61]?=some (.int .i64 lz):=(hF.at_ 27 (by decide)).trans (congrArg some (hV 27 l27).1);have e28:a.tmps[62]?=some (.int .i64 lx):=(hF.at_ 28 (by decide)).trans (congrArg some (hV 28 l28).1);refine wpOp_step (o:=Qw[29]) rfl (fun K hK=>?_);rw [if_pos (by rfl)]
    go_simp
    exact hK _ _ (Qn.next hz hF hV h6 h7 h8 hs 29 (by decide) hb _ (by simp [Vt]) (fun j hj=>by simp [Qa] at hj) (by decide) (by decide) (by decide))
  · have l29:=Zz h3 { on:=29,ground:=Ground.data } (he:=by simp) (hb:=by rfl);have l19:=Zz h3 { on:=19,ground:=Ground.chain } (he:=by simp) (hb:=by rfl);have e29:a.tmps[63]?=some (.bool (decide (lz<lx))):=(hF.at_ 29 (by decide)).trans (congrArg some (hV 29 l29).1);have e19:a.tmps[53]?=some (.string s7):=(hF.at_ 19 (by decide)).trans (congrArg some (hV 19 l19).1);refine wpOp_step (o:=Qw[30]) rfl (fun K hK=>?_);rw [if_pos (by rfl)]
    go_simp
    exact hK _ _ (Qn.next hz hF hV h6 h7 h8 hs 30 (by decide) hb _ (rfl) (fun j hj=>by simp [Qa] at hj) (by decide) (by decide) (by decide))
  · have l30:=Zz h3 { on:=30,ground:=Ground.guard } (he:=by simp) (hb:=by rfl);have i8:a.tmps[8]?=some (.int .i64 lz):=(hF.other 8 (by decide) (by decide)).trans hi8;have e30:a.tmps[64]?=some (.bool (decide (lz<lx))):=(hF.at_ 30 (by decide)).trans (congrArg some (hV 30 l30).1);cases hv:decide (lz<lx) <;> cases hv2:(lz==lx)
    all_goals
      simp only [hv,hv2,Bool.not_true,Bool.not_false,Bool.true_and,Bool.false_and,Bool.and_true,Bool.and_false,Bool.false_eq_true,if_true,if_false,Bool.or_false,Bool.or_true,Bool.true_or,Bool.false_or] at e30;refine wpOp_step (o:=Qw[31]) rfl (fun K hK=>?_);simp [Region.wanted,yielded,e30]
      try go_simp
      exact hK _ _ (Qn.next hz hF hV h6 h7 h8 hs 31 (by decide) hb _ (by simp [Vt,hv,hv2]) (fun j hj=>by simp [Qa] at hj) (by decide) (by decide) (by decide))
  · have l30:=Zz h3 { on:=30,ground:=Ground.guard } (he:=by simp) (hb:=by rfl);have i5:a.tmps[5]?=some (.int .i64 lx):=(hF.other 5 (by decide) (by decide)).trans hi5;have e30:a.tmps[64]?=some (.bool (decide (lz<lx))):=(hF.at_ 30 (by decide)).trans (congrArg some (hV 30 l30).1);cases hv:decide (lz<lx) <;> cases hv2:(lz==lx)
    all_goals
      simp only [hv,hv2,Bool.not_true,Bool.not_false,Bool.true_and,Bool.false_and,Bool.and_true,Bool.and_false,Bool.false_eq_true,if_true,if_false,Bool.or_false,Bool.or_true,Bool.true_or,Bool.false_or] at e30;refine wpOp_step (o:=Qw[32]) rfl (fun K hK=>?_);simp [Region.wanted,yielded,e30]
      try go_simp
      exact hK _ _ (Qn.next hz hF hV h6 h7 h8 hs 32 (by decide) hb _ (by simp [Vt,hv,hv2]) (fun j hj=>by simp [Qa] at hj) (by decide) (by decide) (by decide))
  · have l31:=Zz h3 { on:=31,ground:=Ground.data } (he:=by simp) (hb:=by rfl);have l32:=Zz h3 { on:=32,ground:=Ground.data } (he:=by simp) (hb:=by rfl);have l30:=Zz h3 { on:=30,ground:=Ground.guard } (he:=by simp) (hb:=by rfl);have e31:a.tmps[65]?=some (if decide (lz<lx)=true then undef else .int .i64 lz):=(hF.at_ 31 (by decide)).trans (congrArg some (hV 31 l31).1);have e32:a.tmps[66]?=some (if decide (lz<lx)=true then undef else .int .i64 lx):=(hF.at_ 32 (by decide)).trans (congrArg some (hV 32 l32).1);have e30:a.tmps[64]?=some (.bool (decide (lz<lx))):=(hF.at_ 30 (by decide)).trans (congrArg some (hV 30 l30).1);cases hv:decide (lz<lx) <;> cases hv2:(lz==lx)
    all_goals
      simp only [hv,hv2,Bool.not_true,Bool.not_false,Bool.true_and,Bool.false_and,Bool.and_true,Bool.and_false,Bool.false_eq_true,if_true,if_false,Bool.or_false,Bool.or_true,Bool.true_or,Bool.false_or] at e31 e32 e30;refine wpOp_step (o:=Qw[33]) rfl (fun K hK=>?_);simp [Region.wanted,yielded,e30]
      try go_simp
      exact hK _ _ (Qn.next hz hF hV h6 h7 h8 hs 33 (by decide) hb _ (by simp [Vt,hv,hv2]) (fun j hj=>by simp [Qa] at hj) (by decide) (by decide) (by decide))
  · have l33:=Zz h3 { on:=33,ground:=Ground.data } (he:=by simp) (hb:=by rfl);have l30:=Zz h3 { on:=30,ground:=Ground.chain } (he:=by simp) (hb:=by rfl);have e33:a.tmps[67]?=some (if decide (lz<lx)=true then undef else .bool (lz==lx)):=(hF.at_ 33 (by decide)).trans (congrArg some (hV 33 l33).1);have e30:a.tmps[64]?=some (.bool (decide (lz<lx))):=(hF.at_ 30 (by decide)).trans (congrArg some (hV 30 l30).1);cases hv:decide (lz<lx) <;> cases hv2:(lz==lx)
    all_goals
      simp only [hv,hv2,Bool.not_true,Bool.not_false,Bool.true_and,Bool.false_and,Bool.and_true,Bool.and_false,Bool.false_eq_true,if_true,if_false,Bool.or_false,Bool.or_true,Bool.true_or,Bool.false_or] at e33 e30;refine wpOp_step (o:=Qw[34]) rfl (fun K hK=>?_);simp [Region.wanted,yielded,e30]
      try go_simp
      exact hK _ _ (Qn.next hz hF hV h6 h7 h8 hs 34 (by decide) hb _ (by simp [Vt,hv,hv2]) (fun j hj=>by simp [Qa] at hj) (by decide) (by decide) (by decide))
  · have l34:=Zz h3 { on:=34,ground:=Ground.guard } (he:=by simp) (hb:=by rfl);have i6:a.tmps[6]?=some (.bool rg):=(hF.other 6 (by decide) (by decide)).trans hi6;have e34:a.tmps[68]?=some (if decide (lz<lx)=true then undef else .bool (lz==lx)):=(hF.at_ 34 (by decide)).trans (congrArg some (hV 34 l34).1);cases hv:decide (lz<lx) <;> cases hv2:(lz==lx)
    all_goals
      simp only [hv,hv2,Bool.not_true,Bool.not_false,Bool.true_and,Bool.false_and,Bool.and_true,Bool.and_false,Bool.false_eq_true,if_true,if_false,Bool.or_false,Bool.or_true,Bool.true_or,Bool.false_or] at e34;refine wpOp_step (o:=Qw[35]) rfl (fun K hK=>?_);simp [Region.wanted,yielded,e34]
      try go_simp
      exact hK _ _ (Qn.next hz hF hV h6 h7 h8 hs 35 (by decide) hb _ (by simp [Vt,hv,hv2]) (fun j hj=>by simp [Qa] at hj) (by decide) (by decide) (by decide))
  · have l35:=Zz h3 { on:=35,ground:=Ground.data } (he:=by simp) (hb:=by rfl);have l34:=Zz h3 { on:=34,ground:=Ground.guard } (he:=by simp) (hb:=by rfl);have e35:a.tmps[69]?=some (if (!decide (lz<lx) && (lz==lx))=true then .bool rg else undef):=(hF.at_ 35 (by decide)).trans (congrArg some (hV 35 l35).1);have e34:a.tmps[68]?=some (if decide (lz<lx)=true then undef else .bool (lz==lx)):=(hF.at_ 34 (by decide)).trans (congrArg some (hV 34 l34).1);cases hv:decide (lz<lx) <;> cases hv2:(lz==lx)
    all_goals
      simp only [hv,hv2,Bool.not_true,Bool.not_false,Bool.true_and,Bool.false_and,Bool.and_true,Bool.and_false,Bool.false_eq_true,if_true,if_false,Bool.or_false,Bool.or_true,Bool.true_or,Bool.false_or] at e35 e34;refine wpOp_step (o:=Qw[36]) rfl (fun K hK=>?_);simp [Region.wanted,yielded,e34]
      try go_simp
      exact hK _ _ (Qn.next hz hF hV h6 h7 h8 hs 36 (by decide) hb _ (by simp [Vt,hv,hv2]) (fun j hj=>by simp [Qa] at hj) (by decide) (by decide) (by decide))
  · have l34:=Zz h3 { on:=34,ground:=Ground.data } (he:=by simp) (hb:=by rfl);have l36:=Zz h3 { on:=36,ground:=Ground.data } (he:=by simp) (hb:=by rfl);have l30:=Zz h3 { on:=30,ground:=Ground.guard } (he:=by simp) (hb:=by rfl);have e34:a.tmps[68]?=some (if decide (lz<lx)=true then undef else .bool (lz==lx)):=(hF.at_ 34 (by decide)).trans (congrArg some (hV 34 l34).1);have e36:a.tmps[70]?=some (if (!decide (lz<lx) && (lz==lx))=true then .bool (!rg) else undef):=(hF.at_ 36 (by decide)).trans (congrArg some (hV 36 l36).1);have e30:a.tmps[64]?=some (.bool (decide (lz<lx))):=(hF.at_ 30 (by decide)).trans (congrArg some (hV 30 l30).1);cases hv:decide (lz<lx) <;> cases hv2:(lz==lx)
    all_goals
      simp only [hv,hv2,Bool.not_true,Bool.not_false,Bool.true_and,Bool.false_and,Bool.and_true,Bool.and_false,Bool.false_eq_true,if_true,if_false,Bool.or_false,Bool.or_true,Bool.true_or,Bool.false_or] at e34 e36 e30;refine wpOp_step (o:=Qw[37]) rfl (fun K hK=>?_);simp [Region.wanted,yielded,e30]
      try go_simp
      exact hK _ _ (Qn.next hz hF hV h6 h7 h8 hs 37 (by decide) hb _ (by simp [Vt,hv,hv2]) (fun j hj=>by simp [Qa] at hj) (by decide) (by decide) (by decide))
  · have l30:=Zz h3 { on:=30,ground:=Ground.data } (he:=by simp) (hb:=by rfl);have l37:=Zz h3 { on:=37,ground:=Ground.data } (he:=by simp) (hb:=by rfl);have e30:a.tmps[64]?=some (.bool (decide (lz<lx))):=(hF.at_ 30 (by decide)).trans (congrArg some (hV 30 l30).1);have e37:a.tmps[71]?=some (if decide (lz<lx)=true then undef else .bool ((lz==lx) && !rg)):=(hF.at_ 37 (by decide)).trans (congrArg some (hV 37 l37).1);cases hv:decide (lz<lx) <;> cases hv2:(lz==lx)
    all_goals
      simp only [hv,hv2,Bool.true_and,Bool.false_and,Bool.false_eq_true,if_true,if_false] at e30 e37;refine wpOp_step (o:=Qw[38]) rfl (fun K hK=>?_);rw [if_pos (by rfl)]
      go_simp
      exact hK _ _ (Qn.next hz hF hV h6 h7 h8 hs 38 (by decide) hb _ (by simp [Vt,hv,hv2]) (fun j hj=>by simp [Qa] at hj) (by decide) (by decide) (by decide))
  · have l25:=Zz h3 { on:=25,ground:=Ground.data } (he:=by simp) (hb:=by rfl);have l26:=Zz h3 { on:=26,ground:=Ground.data } (he:=by simp) (hb:=by rfl);have l38:=Zz h3 { on:=38,ground:=Ground.data } (he:=by simp) (hb:=by rfl);have e25:a.tmps[59]?=some (.agg #[.int .i64 z.kind,.int .i64 z.op,.int .i64 z.line,.int .i64 z.p,.int .i64 z.q,.string z.str,.slice dz.a z.args.length dz.c,.slice dz.fa z.funcs.length dz.fc]):=(hF.at_ 25 (by decide)).trans (congrArg some (hV 25 l25).1);have e26:a.tmps[60]?=some (.int .i64 k):=(hF.at_ 26 (by decide)).trans (congrArg some (hV 26 l26).1);have e38:a.tmps[72]?=some (.bool (decide (lz<lx) || ((lz==lx) && !rg))):=(hF.at_ 38 (by decide)).trans (congrArg some (hV 38 l38).1);refine wpOp_step (o:=Qw[39]) rfl (fun K hK=>?_);rw [if_pos (by rfl)]
    go_simp
    refine (HBZ _ w (by first|rfl|simp) hb).mono ?_;rintro e w' ⟨s',hs',rfl,hb'⟩;exact hK _ _ (Qn.call8 hz hF hV h6 h7 h8 hs hn (thru hb' hb) hs' (fun j hj=>by simp [Qa] at hj;subst hj;exact .inl rfl))
  · have l21:=Zz h3 { on:=21,ground:=Ground.data } (he:=by simp) (hb:=by rfl);have l39:=Zz h3 { on:=39,ground:=Ground.data } (he:=by simp) (hb:=by rfl);have e21:a.tmps[55]?=some (.string (s6++⟨#[32]⟩++s7++⟨#[32]⟩)):=(hF.at_ 21 (by decide)).trans (congrArg some (hV 21 l21).1);have e39:a.tmps[73]?=some (.string s8):=(hF.at_ 39 (by decide)).trans (congrArg some (hV 39 l39).1);have dl:∀ i j,l[i]?=some true→j ∈ Qa i→l[j]?=some true:=fun i j h1 h2=>(hV i h1).2 j h2;have w6:=Zo (h6 (dl _ _ l21 (by decide))) z6;have w7:=Zo (h7 (dl _ _ l21 (by decide))) z7;have w8:=Zo (h8 l39) z8;have g:¬ 9223372036854775807<s6.size+1+s7.size+1+s8.size:=by omega
    refine wpOp_step (o:=Qw[40]) rfl (fun K hK=>?_);rw [if_pos (by rfl)]
    go_simp
    exact hK _ _ (Qn.next hz hF hV h6 h7 h8 hs 40 (by decide) hb _ (rfl) (fun j hj=>by simp [Qa] at hj;rcases hj with rfl|rfl|rfl <;> first|exact .inr (.inl (dl 21 16 l21 (by decide)))|exact .inr (.inl (dl 21 19 l21 (by decide)))|exact .inr (.inl l39)) (by decide) (by decide) (by decide))
  · have l40:=Zz h3 { on:=40,ground:=Ground.data } (he:=by simp) (hb:=by rfl);have l39:=Zz h3 { on:=39,ground:=Ground.chain } (he:=by simp) (hb:=by rfl);have e40:a.tmps[74]?=some (.string (s6++⟨#[32]⟩++s7++⟨#[32]⟩++s8)):=(hF.at_ 40 (by decide)).trans (congrArg some (hV 40 l40).1);have e39:a.tmps[73]?=some (.string s8):=(hF.at_ 39 (by decide)).trans (congrArg some (hV 39 l39).1);have dl:∀ i j,l[i]?=some true→j ∈ Qa i→l[j]?=some true:=fun i j h1 h2=>(hV i h1).2 j h2;refine wpOp_step (o:=Qw[41]) rfl (fun K hK=>?_);rw [if_pos (by rfl)]
    go_simp
    exact hK _ _ (Qn.next hz hF hV h6 h7 h8 hs 41 (by decide) hb _ (rfl) (fun j hj=>by simp [Qa] at hj;rcases hj with rfl|rfl|rfl <;> first|exact .inr (.inl (dl 40 16 l40 (by decide)))|exact .inr (.inl (dl 40 19 l40 (by decide)))|exact .inr (.inl l39)) (by decide) (by decide) (by decide))
theorem Z5 {md:Region.Mode} {ops:Array Oper} {l:Array Bool} (hz:l.size=ops.size) (hc:((List.range ops.size).all fun i=>match ops[i]? with|some o=>o.after.all (fun e=>decide (e.on<i))|none=>true)=true) (hr:Region.ready md ops l=[]):∀ n i:Nat,i<n→i<ops.size→l[i]?=some true:=by
  intro n
  induction n with
  | zero=>intro i h;omega
  | succ n ih =>
    intro i hi hl;apply Classical.byContradiction;intro hne
    have hin:i ∈ Region.ready md ops l:=by
      unfold Region.ready;rw [List.mem_filter,List.mem_range];refine ⟨hl,?_⟩
      have h1:l.getD i true=false:=by
        rw [Array.getD_eq_getD_getElem?];cases hq:l[i]? with
        | none=>rw [Array.getElem?_eq_none_iff] at hq;omega
        | some b=>cases b with
          | true=>exact absurd hq hne
          | false=>rfl
      have ho:ops[i]?=some ops[i]:=Array.getElem?_eq_getElem hl;have h2:=List.all_eq_true.1 hc i (List.mem_range.2 hl);rw [ho] at h2
      replace h2:ops[i].after.all (fun e=>decide (e.on<i))=true:=h2
      rw [h1,ho];show (!false && (ops[i].after.all fun e => !Region.binds md e || l.getD e.on false))=true;rw [Bool.not_false,Bool.true_and];rw [←Array.all_toList,List.all_eq_true] at h2 ⊢;intro e he;have h3:e.on<i:=of_decide_eq_true (h2 e he);have h4:l.getD e.on false=true:=by rw [Array.getD_eq_getD_getElem?,ih e.on (by omega) (by omega)];rfl
      rw [h4,Bool.or_true]
    rw [hr] at hin;cases hin
theorem Z0.eq {a0 a:Act} {X:Nat→Value} (h:Z0 a0 a X) (hs:75≤a0.tmps.size):a=[4,34,35,36,37,38,39,40,41,42,43,44,45,46,47,48,49,50,51,52,53,54,55,56,57,58,59,60,61,62,63,64,65,66,67,68,69,70,71,72,73,74].foldl (fun a d=>a.put (some d) ((fun d=>X (if d=4 then 41 else d - 34)) d)) a0:=by
  have hd:=qh (fun d=>X (if d=4 then 41 else d - 34)) [4,34,35,36,37,38,39,40,41,42,43,44,45,46,47,48,49,50,51,52,53,54,55,56,57,58,59,60,61,62,63,64,65,66,67,68,69,70,71,72,73,74] a0
  have ht:a.tmps=([4,34,35,36,37,38,39,40,41,42,43,44,45,46,47,48,49,50,51,52,53,54,55,56,57,58,59,60,61,62,63,64,65,66,67,68,69,70,71,72,73,74].foldl (fun a d=>a.put (some d) ((fun d=>X (if d=4 then 41 else d - 34)) d)) a0).tmps:=by
    apply Array.ext_getElem?;intro j;rw [puts_at (fun d=>X (if d=4 then 41 else d - 34)) j _ a0 (fun d hd=>by simp at hd;omega)];by_cases h4:j=4
    · subst h4;rw [if_pos (by simp)];exact h.at_ 41 (by decide)
    · by_cases hj:34≤j∧j≤74
      · rw [if_pos (by simp;omega)];have h9:=h.at_ (j - 34) (by omega);unfold zV at h9;rw [if_neg (by omega),show 34+(j - 34)=j by omega] at h9;simp only [if_neg h4];exact h9
      · rw [if_neg (by simp;omega),h.other j h4 hj]
  have hdef:=h.defers.trans hd.symm;clear hd h hs;generalize [4,34,35,36,37,38,39,40,41,42,43,44,45,46,47,48,49,50,51,52,53,54,55,56,57,58,59,60,61,62,63,64,65,66,67,68,69,70,71,72,73,74].foldl (fun a d=>a.put (some d) ((fun d=>X (if d=4 then 41 else d - 34)) d)) a0=b at ht hdef ⊢;obtain ⟨t,d⟩:=a;obtain ⟨t',d'⟩:=b;simp only at ht hdef;rw [ht,hdef]
theorem jH {Q:Exit→Act→World→Prop} {T6 T7 T8:Bs} {x y z:Ex} {dy dz:EA} {fa0:Option Addr} {q b off c0 fc0 k:Nat} {lx ly lz:Int} {rg:Bool} {a0:Act} {w1:World} (hs:75≤a0.tmps.size)
    (hi1:a0.tmps[1]?=some (.int .i64 k)) (hi2:a0.tmps[2]?=some (.pointer (some ⟨q,0,none⟩))) (hi5:a0.tmps[5]?=some (.int .i64 lx)) (hi6:a0.tmps[6]?=some (.bool rg)) (hi7:a0.tmps[7]?=some (.int .i64 ly)) (hi8:a0.tmps[8]?=some (.int .i64 lz))
    (hn2:(1:Int)<(x.args.length:Int)∧1<x.args.length∧0<x.args.length∧x.args.length≤c0∧c0≤9223372036854775807)
    (hS:∀ w',Below w1.heap.size w1 w'→XB x ⟨some ⟨b,off,none⟩,c0,fa0,fc0⟩ q w'∧Y0 w' b off y dy∧Y1 w' b off z dz)
    (HBY:∀ br w',br=(decide (ly<lx) || (ly==lx && rg))→Below w1.heap.size w1 w'→Calls Tryz.prog 99 #[.agg #[.int .i64 y.kind,.int .i64 y.op,.int .i64 y.line,.int .i64 y.p,.int .i64 y.q,.string y.str,.slice dy.a y.args.length dy.c,.slice dy.fa y.funcs.length dy.fc],.int .i64 k,.bool br] w' (RS T6 w')) (HOP:∀ w',Calls Tryz.prog 103 #[.agg #[.int .i64 x.kind,.int .i64 x.op,.int .i64 x.line,.int .i64 x.p,.int .i64 x.q,.string x.str,.slice ((⟨some ⟨b,off,none⟩,c0,fa0,fc0⟩:EA)).a x.args.length ((⟨some ⟨b,off,none⟩,c0,fa0,fc0⟩:EA)).c,.slice ((⟨some ⟨b,off,none⟩,c0,fa0,fc0⟩:EA)).fa x.funcs.length ((⟨some ⟨b,off,none⟩,c0,fa0,fc0⟩:EA)).fc]] w' (RS T7 w')) (HBZ:∀ br w',br=(decide (lz<lx) || (lz==lx && !rg))→Below w1.heap.size w1 w'→Calls Tryz.prog 99 #[.agg #[.int .i64 z.kind,.int .i64 z.op,.int .i64 z.line,.int .i64 z.p,.int .i64 z.q,.string z.str,.slice dz.a z.args.length dz.c,.slice dz.fa z.funcs.length dz.fc],.int .i64 k,.bool br] w' (RS T8 w'))
    (z6:T6.length≤1125899906842626) (z7:T7.length≤4) (z8:T8.length≤1125899906842626)
    (w4:World) (hw4:Below w1.heap.size w1 w4)
    (hQ:∀ (a:Act) (w:World) (Y:Nat→Value) (s6 s7 s8:ByteArray),a=[4,34,35,36,37,38,39,40,41,42,43,44,45,46,47,48,49,50,51,52,53,54,55,56,57,58,59,60,61,62,63,64,65,66,67,68,69,70,71,72,73,74].foldl (fun a d=>a.put (some d) (Y d)) a0→Y 4=.string (s6++⟨#[32]⟩++s7++⟨#[32]⟩++s8)→Zg s6=T6→Zg s7=T7→Zg s8=T8→Below w1.heap.size w1 w→Q .normal a w) :
    (Code.region 5 Qw true).wp Tryz.prog Q a0 w4:=by
  refine wp_region_any (by kernel_rfl) (vO (ops:=Qw) (I:=Qn ⟨q,b,off,x.args.length,c0,k,.agg #[.int .i64 x.kind,.int .i64 x.op,.int .i64 x.line,.int .i64 x.p,.int .i64 x.q,.string x.str,.slice ((⟨some ⟨b,off,none⟩,c0,fa0,fc0⟩:EA)).a x.args.length ((⟨some ⟨b,off,none⟩,c0,fa0,fc0⟩:EA)).c,.slice ((⟨some ⟨b,off,none⟩,c0,fa0,fc0⟩:EA)).fa x.funcs.length ((⟨some ⟨b,off,none⟩,c0,fa0,fc0⟩:EA)).fc],.agg #[.int .i64 y.kind,.int .i64 y.op,.int .i64 y.line,.int .i64 y.p,.int .i64 y.q,.string y.str,.slice dy.a y.args.length dy.c,.slice dy.fa y.funcs.length dy.fc],.agg #[.int .i64 z.kind,.int .i64 z.op,.int .i64 z.line,.int .i64 z.p,.int .i64 z.q,.string z.str,.slice dz.a z.args.length dz.c,.slice dz.fa z.funcs.length dz.fc],lx,ly,lz,rg⟩ T6 T7 T8 a0 w1) (fun l a w h=>h.size) (fun l a w i hIt hi=>jI hs hi1 hi2 hi5 hi6 hi7 hi8 hn2 hS HBY HOP HBZ z6 z7 z8 l a w i hIt hi) (fun l a w hIt hr=>?_) _ _ _ _ (by decide +kernel) ?_)
  · obtain ⟨hz,hb,X,s6,s7,s8,hF,hV,h6,h7,h8⟩:=hIt;have hall:=fun i hi=>Z5 (ops:=Qw) (hz.trans rfl) (by kernel_rfl) hr 42 i hi hi;exact hQ a w (fun d=>X (if d=4 then 41 else d - 34)) s6 s7 s8 (hF.eq hs) (hV 41 (hall 41 (by decide))).1 (h6 (hall 16 (by decide))) (h7 (hall 19 (by decide))) (h8 (hall 39 (by decide))) hb
  · have hX:∃ X:Nat→Value,∀ j,j<a0.tmps.size→a0.tmps[j]?=some (X j):=⟨fun j=>a0.tmps[j]?.getD undef,fun j hj=>by simp [hj]⟩
    obtain ⟨X,hX⟩:=hX
    have hf:∀ i,(Array.replicate Qw.size false)[i]?≠some true:=fun i h=>by
      have:=Array.mem_of_getElem? h;simp at this
    exact ⟨rfl,Below.drew hw4,fun i=>X (zV i),⟨#[]⟩,⟨#[]⟩,⟨#[]⟩,⟨rfl,rfl,fun _ _ _=>rfl,fun i hi=>hX _ (by unfold zV;split <;> omega)⟩,fun i h=>absurd h (hf i),fun h=>absurd h (hf _),fun h=>absurd h (hf _),fun h=>absurd h (hf _)⟩
end Go.Proofs.YtalopgnjgbiopaaGreatDoor
