/- The printer's questions of operands: left, right. -/
import Derived.Test.YtdmdhopfgnlnoaaGreatDoorP6
import Derived.Test.YtdmdhopfgnlnoaaGreatDoorP1
import Derived.Test.YtdmdhopfgnlnoaaGreatDoorYP
import Derived.Lib.AppendIntMem
import Derived.Lib.BufferRead
import Derived.Laws.IdiomStrings
namespace Go.Proofs.YtdmdhopfgnlnoaaGreatDoor
open Go.RowKit
set_option linter.unusedVariables false
set_option linter.unusedSimpArgs false
set_option maxHeartbeats 4000000
set_option maxRecDepth 100000
theorem Vz {B:Nat} {x y:Ex} {d:EA} {w:World} {i:Nat} (hat:x.At (Qx B) w d) (hy:x.args[i]?=some y):∃ b off dy,d.a=some ⟨b,off,none⟩∧b<B∧b<w.heap.size∧w.rangeAt b (off+i*8) (y.cells dy)∧y.At (Qx B) w dy:=by
  obtain ⟨-,-,hrow,-⟩:=Ex.at_iff.1 hat;obtain ⟨b,off,h1,h2⟩:=hrow;obtain ⟨ha,hF,hlb⟩:=h1 (by intro h9;rw [h9] at hy;simp at hy);obtain ⟨cs,hr,dy,rfl,hay⟩:=h2 i y hy;exact ⟨b,off,dy,ha,hF,hlb,hr,hay⟩
theorem left_any {B p m:Nat} {T:Bs} (x a:Ex) (d:EA) (w:World) (ha:x.args[0]?=some a) (hat:x.At (Qx B) w d) (h:zw B p m T w) :
    Calls Tryz.prog 79 #[.pointer (some ⟨p,0,none⟩),(eV x d)] w fun e w'=>e=.returned (.bool (zj x a))∧Below w.heap.size w w':=by
  delta eV
  obtain ⟨b,off,da,hda,hbB,hlb,hr,hay⟩:=Vz hat ha;have hox:QO x.op:=(Ex.at_iff.1 hat).1.2.1;have hoa:QO a.op:=(Ex.at_iff.1 hay).1.2.1;have hal:0<x.args.length:=by cases hh:x.args with|nil=>rw [hh] at ha;cases ha|cons _ _=>simp
  have hall:x.args.length≤d.c∧x.args.length≤9223372036854775807:=by have:=(Ex.at_iff.1 hat).2.1;unfold LM at this;omega
  obtain ⟨a0,c0,fa0,fc0⟩:=d;simp only at hda;subst hda;obtain ⟨la,hla⟩:∃ l,l=Qb a:=⟨_,rfl⟩
  obtain ⟨lx,hlx⟩:∃ l,l=Qb x:=⟨_,rfl⟩
  have HLA:∀ w',Below w.heap.size w w'→Hid (Calls Tryz.prog 46 #[.pointer (some ⟨p,0,none⟩),.agg #[.int .i64 a.kind,.int .i64 a.op,.int .i64 a.line,.int .i64 a.p,.int .i64 a.q,.string a.str,.slice da.a a.args.length da.c,.slice da.fa a.funcs.length da.fc]] w' fun e w''=>e=.returned (.int .i64 la)∧Below w'.heap.size w' w''):=fun w' hb=>hI (by rw [hla];exact zC a da w' hoa (h.below hb));have HLX:∀ w',Below w.heap.size w w'→Hid (Calls Tryz.prog 46 #[.pointer (some ⟨p,0,none⟩),.agg #[.int .i64 x.kind,.int .i64 x.op,.int .i64 x.line,.int .i64 x.p,.int .i64 x.q,.string x.str,.slice ((⟨some ⟨b,off,none⟩,c0,fa0,fc0⟩:EA)).a x.args.length ((⟨some ⟨b,off,none⟩,c0,fa0,fc0⟩:EA)).c,.slice ((⟨some ⟨b,off,none⟩,c0,fa0,fc0⟩:EA)).fa x.funcs.length ((⟨some ⟨b,off,none⟩,c0,fa0,fc0⟩:EA)).fc]] w' fun e w''=>e=.returned (.int .i64 lx)∧Below w'.heap.size w' w''):=fun w' hb=>hI (by rw [hlx];exact zC x ⟨some ⟨b,off,none⟩,c0,fa0,fc0⟩ w' hox (h.below hb));have hres:zj x a=(decide (la<lx) || (la==lx && (lx==8 || lx==12))):=by rw [hla,hlx];rfl
  rw [hres];clear hres hla hlx hat hay h ha hox hoa;simp only [Nat.zero_mul,Nat.add_zero] at hr;obtain ⟨w1,hw1⟩:=vG x (⟨some ⟨b,off,none⟩,c0,fa0,fc0⟩:EA) w;have hb1:Below w.heap.size w w1:=by rw [hw1];exact bw
  have j1:=vU x (⟨some ⟨b,off,none⟩,c0,fa0,fc0⟩:EA) hw1;have r1:w1.rangeAt b off (a.cells da):=(Zb hb1:ZA Ze w w1).range trivial hlb hr;have hlb1:b<w1.heap.size:=by have:=hb1.size;omega
  go_enter Tryz.func79,Tryz.ntmps79
  go_upto_region 1 with fail
  rw [←hw1];clear hw1 hr;have kb:=fun i=>Za j1 i;have rr:∀ w',Below w1.heap.size w1 w'→w'.rangeAt b off (a.cells da):=fun w' hb=>(Zb hb:ZA Ze w1 w').range trivial hlb1 r1
  go_region_held3 (fun w'=>w'.heap[w.heap.size]?=some (.cells #[.int .i64 x.kind,.int .i64 x.op,.int .i64 x.line,.int .i64 x.p,.int .i64 x.q,.string x.str,.slice ((⟨some ⟨b,off,none⟩,c0,fa0,fc0⟩:EA)).a x.args.length ((⟨some ⟨b,off,none⟩,c0,fa0,fc0⟩:EA)).c,.slice ((⟨some ⟨b,off,none⟩,c0,fa0,fc0⟩:EA)).fa x.funcs.length ((⟨some ⟨b,off,none⟩,c0,fa0,fc0⟩:EA)).fc] 37)∧(∀ i,w'.cell? ⟨w.heap.size,i,none⟩=#[.int .i64 x.kind,.int .i64 x.op,.int .i64 x.line,.int .i64 x.p,.int .i64 x.q,.string x.str,.slice ((⟨some ⟨b,off,none⟩,c0,fa0,fc0⟩:EA)).a x.args.length ((⟨some ⟨b,off,none⟩,c0,fa0,fc0⟩:EA)).c,.slice ((⟨some ⟨b,off,none⟩,c0,fa0,fc0⟩:EA)).fa x.funcs.length ((⟨some ⟨b,off,none⟩,c0,fa0,fc0⟩:EA)).fc][i]?)∧w'.cell? ⟨b,off,none⟩=some (.int .i64 a.kind)∧w'.cell? ⟨b,off+1,none⟩=some (.int .i64 a.op)∧w'.cell? ⟨b,off+2,none⟩=some (.int .i64 a.line)∧w'.cell? ⟨b,off+3,none⟩=some (.int .i64 a.p)∧w'.cell? ⟨b,off+4,none⟩=some (.int .i64 a.q)∧w'.cell? ⟨b,off+5,none⟩=some (.string a.str)∧w'.cell? ⟨b,off+6,none⟩=some (.slice da.a a.args.length da.c)∧w'.cell? ⟨b,off+7,none⟩=some (.slice da.fa a.funcs.length da.fc))
    (first|exact ⟨j1,fun i=>Za j1 i,r1 0 _ rfl,r1 1 _ rfl,r1 2 _ rfl,r1 3 _ rfl,r1 4 _ rfl,r1 5 _ rfl,r1 6 _ rfl,r1 7 _ rfl⟩|exact ⟨Zd (w:=w1) bw j1,fun i=>Za (Zd (w:=w1) bw j1) i,rr _ bw 0 _ rfl,rr _ bw 1 _ rfl,rr _ bw 2 _ rfl,rr _ bw 3 _ rfl,rr _ bw 4 _ rfl,rr _ bw 5 _ rfl,rr _ bw 6 _ rfl,rr _ bw 7 _ rfl⟩)
    (first
    | (go_at_call_of 46 (Ex.kind a);refine ((HLA _ bw).out).mono ?_;rintro e w6 ⟨rfl,hb6⟩)
    | (go_at_call_of 46 (Ex.kind x);refine ((HLX _ bw).out).mono ?_;rintro e w7 ⟨rfl,hb7⟩))
  clear rr r1 j1 kb;cases t1:decide (la<lx)
  · cases t2:(la==lx)
    · go_wp2_with fail
      go_ret;refine ⟨?_,bw⟩;rw [t1,t2];rfl
    · cases t3:(lx==8)
      · cases t4:(lx==12)
        · go_wp2_with fail
          go_ret;refine ⟨?_,bw⟩;rw [t1,t2,t3,t4];rfl
        · go_wp2_with fail
          go_ret;refine ⟨?_,bw⟩;rw [t1,t2,t3,t4];rfl
      · go_wp2_with fail
        go_ret;refine ⟨?_,bw⟩;rw [t1,t2,t3];rfl
  · go_wp2_with fail
    go_ret;refine ⟨?_,bw⟩;rw [t1];rfl
theorem right_any {B p m:Nat} {T:Bs} (x a:Ex) (d:EA) (w:World) (ha:x.args[1]?=some a) (hat:x.At (Qx B) w d) (h:zw B p m T w) :
    Calls Tryz.prog 80 #[.pointer (some ⟨p,0,none⟩),(eV x d)] w fun e w'=>e=.returned (.bool (zN x a))∧Below w.heap.size w w':=by
  delta eV
  obtain ⟨b,off,da,hda,hbB,hlb,hr,hay⟩:=Vz hat ha;have hox:QO x.op:=(Ex.at_iff.1 hat).1.2.1;have hoa:QO a.op:=(Ex.at_iff.1 hay).1.2.1;have hal:1<x.args.length:=(List.getElem?_eq_some_iff.1 ha).1;have hal2:(1:Int)<(x.args.length:Int):=by omega
  have hall:x.args.length≤d.c∧x.args.length≤9223372036854775807:=by have:=(Ex.at_iff.1 hat).2.1;unfold LM at this;omega
  obtain ⟨a0,c0,fa0,fc0⟩:=d;simp only at hda;subst hda;obtain ⟨la,hla⟩:∃ l,l=Qb a:=⟨_,rfl⟩
  obtain ⟨lx,hlx⟩:∃ l,l=Qb x:=⟨_,rfl⟩
  have HLA:∀ w',Below w.heap.size w w'→Hid (Calls Tryz.prog 46 #[.pointer (some ⟨p,0,none⟩),.agg #[.int .i64 a.kind,.int .i64 a.op,.int .i64 a.line,.int .i64 a.p,.int .i64 a.q,.string a.str,.slice da.a a.args.length da.c,.slice da.fa a.funcs.length da.fc]] w' fun e w''=>e=.returned (.int .i64 la)∧Below w'.heap.size w' w''):=fun w' hb=>hI (by rw [hla];exact zC a da w' hoa (h.below hb));have HLX:∀ w',Below w.heap.size w w'→Hid (Calls Tryz.prog 46 #[.pointer (some ⟨p,0,none⟩),.agg #[.int .i64 x.kind,.int .i64 x.op,.int .i64 x.line,.int .i64 x.p,.int .i64 x.q,.string x.str,.slice ((⟨some ⟨b,off,none⟩,c0,fa0,fc0⟩:EA)).a x.args.length ((⟨some ⟨b,off,none⟩,c0,fa0,fc0⟩:EA)).c,.slice ((⟨some ⟨b,off,none⟩,c0,fa0,fc0⟩:EA)).fa x.funcs.length ((⟨some ⟨b,off,none⟩,c0,fa0,fc0⟩:EA)).fc]] w' fun e w''=>e=.returned (.int .i64 lx)∧Below w'.heap.size w' w''):=fun w' hb=>hI (by rw [hlx];exact zC x ⟨some ⟨b,off,none⟩,c0,fa0,fc0⟩ w' hox (h.below hb));have hres:zN x a=(decide (la<lx) || (la==lx && lx != 8 && lx != 12)):=by rw [hla,hlx];rfl
  rw [hres];clear hres hla hlx hat hay h ha hox hoa;rw [show off+1*8=off+8 from by omega] at hr;obtain ⟨w1,hw1⟩:=vG x (⟨some ⟨b,off,none⟩,c0,fa0,fc0⟩:EA) w;have hb1:Below w.heap.size w w1:=by rw [hw1];exact bw
  have j1:=vU x (⟨some ⟨b,off,none⟩,c0,fa0,fc0⟩:EA) hw1;have r1:w1.rangeAt b (off+8) (a.cells da):=(Zb hb1:ZA Ze w w1).range trivial hlb hr;have hlb1:b<w1.heap.size:=by have:=hb1.size;omega
  go_enter Tryz.func80,Tryz.ntmps80
  go_upto_region 1 with fail
  rw [←hw1];clear hw1 hr;have kb:=fun i=>Za j1 i;have rr:∀ w',Below w1.heap.size w1 w'→w'.rangeAt b (off+8) (a.cells da):=fun w' hb=>(Zb hb:ZA Ze w1 w').range trivial hlb1 r1
  go_region_held3 (fun w'=>w'.heap[w.heap.size]?=some (.cells #[.int .i64 x.kind,.int .i64 x.op,.int .i64 x.line,.int .i64 x.p,.int .i64 x.q,.string x.str,.slice ((⟨some ⟨b,off,none⟩,c0,fa0,fc0⟩:EA)).a x.args.length ((⟨some ⟨b,off,none⟩,c0,fa0,fc0⟩:EA)).c,.slice ((⟨some ⟨b,off,none⟩,c0,fa0,fc0⟩:EA)).fa x.funcs.length ((⟨some ⟨b,off,none⟩,c0,fa0,fc0⟩:EA)).fc] 37)∧(∀ i,w'.cell? ⟨w.heap.size,i,none⟩=#[.int .i64 x.kind,.int .i64 x.op,.int .i64 x.line,.int .i64 x.p,.int .i64 x.q,.string x.str,.slice ((⟨some ⟨b,off,none⟩,c0,fa0,fc0⟩:EA)).a x.args.length ((⟨some ⟨b,off,none⟩,c0,fa0,fc0⟩:EA)).c,.slice ((⟨some ⟨b,off,none⟩,c0,fa0,fc0⟩:EA)).fa x.funcs.length ((⟨some ⟨b,off,none⟩,c0,fa0,fc0⟩:EA)).fc][i]?)∧w'.cell? ⟨b,off+8,none⟩=some (.int .i64 a.kind)∧w'.cell? ⟨b,off+9,none⟩=some (.int .i64 a.op)∧w'.cell? ⟨b,off+10,none⟩=some (.int .i64 a.line)∧w'.cell? ⟨b,off+11,none⟩=some (.int .i64 a.p)∧w'.cell? ⟨b,off+12,none⟩=some (.int .i64 a.q)∧w'.cell? ⟨b,off+13,none⟩=some (.string a.str)∧w'.cell? ⟨b,off+14,none⟩=some (.slice da.a a.args.length da.c)∧w'.cell? ⟨b,off+15,none⟩=some (.slice da.fa a.funcs.length da.fc))
    (first|exact ⟨j1,fun i=>Za j1 i,r1 0 _ rfl,r1 1 _ rfl,r1 2 _ rfl,r1 3 _ rfl,r1 4 _ rfl,r1 5 _ rfl,r1 6 _ rfl,r1 7 _ rfl⟩|exact ⟨Zd (w:=w1) bw j1,fun i=>Za (Zd (w:=w1) bw j1) i,rr _ bw 0 _ rfl,rr _ bw 1 _ rfl,rr _ bw 2 _ rfl,rr _ bw 3 _ rfl,rr _ bw 4 _ rfl,rr _ bw 5 _ rfl,rr _ bw 6 _ rfl,rr _ bw 7 _ rfl⟩)
    (first
    | (go_at_call_of 46 (Ex.kind a);refine ((HLA _ bw).out).mono ?_;rintro e w6 ⟨rfl,hb6⟩)
    | (go_at_call_of 46 (Ex.kind x);refine ((HLX _ bw).out).mono ?_;rintro e w7 ⟨rfl,hb7⟩))
  clear rr r1 j1 kb;cases t1:decide (la<lx)
  · cases t2:(la==lx)
    · go_wp2_with fail
      go_ret;refine ⟨?_,bw⟩;rw [t1,t2];rfl
    · cases t3:(lx != 8)
      · cases t4:(lx != 12)
        · go_wp2_with fail
          go_ret;refine ⟨?_,bw⟩;rw [t1,t2,t3,t4];rfl
        · go_wp2_with fail
          go_ret;refine ⟨?_,bw⟩;rw [t1,t2,t3,t4];rfl
      · go_wp2_with fail
        go_ret;refine ⟨?_,bw⟩;rw [t1,t2,t3];rfl
  · go_wp2_with fail
    go_ret;refine ⟨?_,bw⟩;rw [t1];rfl
theorem ZB {x:Ex} {p:Int} {t:Ttl} (h:ZH t p x=0):Zn x p=true:=by
  obtain ⟨-,-,h3,-⟩:=ql.1 (Qm.1 h).1;simp at h3;exact h3.2
theorem QS {x:Ex} {p:Int} (h:Zn x p=true) (hk:x.kind=8∨x.kind=14∨x.kind=16∨x.kind=17∨x.kind=18):x.args.length=2:=by
  unfold Zn at h;rcases hk with hk|hk|hk|hk|hk <;> (simp [hk] at h;first|exact qA (n:=2) h|exact qA (n:=2) h.1)
theorem zr {x:Ex} {p:Int} (h:Zn x p=true) (hk:x.kind=13∨x.kind=15∨x.kind=19):x.args.length=1:=by
  unfold Zn at h;rcases hk with hk|hk|hk <;> (simp [hk] at h;first|exact qA (n:=1) h|exact qA (n:=1) h.1)
theorem vQ {x:Ex} {p:Int} (h:Zn x p=true) (hk:x.kind=9∨x.kind=10):0<x.args.length:=by
  unfold Zn at h;rcases hk with hk|hk <;> (simp [hk] at h;have h2:=h.2;unfold zg at h2;cases ha:x.args with|nil=>rw [ha] at h2;cases h2|cons _ _=>simp)
theorem VC {x:Ex} {p:Int} (h:Zn x p=true) (hk:x.kind=11):x.funcs.length=1:=by
  unfold Zn at h;simp [hk] at h;exact h.2
theorem shapeO {x:Ex} {p:Int} (h:Zn x p=true) (hk:x.kind=15∨x.kind=16):1≤x.op∧x.op≤23:=by
  unfold Zn at h;rcases hk with hk|hk <;> (simp [hk] at h;omega)
theorem arg0 {x:Ex} (h:0<x.args.length):∃ a,x.args[0]?=some a:=⟨_,List.getElem?_eq_getElem h⟩
theorem arg_err {x a:Ex} {i:Nat} {t:Ttl} {p:Int} (h:ZH t p x=0) (ha:x.args[i]?=some a):ZH ttl0 x.kind a=0:=(Qm.1 h).2.1 a (List.mem_of_getElem? ha)
theorem arg_lt {x a:Ex} {i:Nat} (ha:x.args[i]?=some a):a.sz<x.sz:=Ex.args_lt (List.mem_of_getElem? ha)
theorem yP8c {P:Prop} (h:P:=by
  obtain ⟨k,o,l,p,q,s,args,f⟩:=x;cases args with
  | nil=>simp [Ex.args] at ha
  | cons b r=>simp [Ex.args] at ha;subst ha;rfl):P:=h
theorem vu {x a:Ex} (ha:x.args[0]?=some a):Qi x=if x.kind=15 then x.op==20 else if x.kind=16∨x.kind=17∨x.kind=18 then !zj x a && Qi a else if x.kind=8∨x.kind=9∨x.kind=10 then Qf a && Qi a else false:=by
  exact yP8c
theorem opens_eq {x a:Ex} (ha:x.args[0]?=some a):ZF x=if x.kind=8∨x.kind=9∨x.kind=10 then !Qf a || ZF a else x.kind==19:=by
  exact yP8c
theorem vW {x:Ex} (h:x.kind≠15) (h2:¬ (x.kind=16∨x.kind=17∨x.kind=18)) (h3:¬ (x.kind=8∨x.kind=9∨x.kind=10)):Qi x=false:=by
  obtain ⟨k,o,l,p,q,s,args,f⟩:=x;simp only [Ex.kind] at h h2 h3;cases args with
  | nil=>simp [Qi,h]
  | cons b r=>simp only [Qi,if_neg h,if_neg h2,if_neg h3]
theorem minus_un {x:Ex} (h:x.kind=15):Qi x=(x.op==20):=by
  obtain ⟨k,o,l,p,q,s,args,f⟩:=x;simp only [Ex.kind] at h;subst h;cases args with
  | nil=>simp [Qi,Ex.op]
  | cons b r=>simp [Qi,Ex.op]
theorem vT {x:Ex} (h3:¬ (x.kind=8∨x.kind=9∨x.kind=10)):ZF x=(x.kind==19):=by
  obtain ⟨k,o,l,p,q,s,args,f⟩:=x;simp only [Ex.kind] at h3 ⊢;cases args with
  | nil=>simp [ZF]
  | cons b r=>simp only [ZF,if_neg h3]
theorem Vn {w:World} {b i:Nat} {cs cs':Array Value} {T:TypeId} {v:Value} (h:w.heap[b]?=some (.cells cs T)) (e:cs.setIfInBounds i v=cs'):(w.setCell ⟨b,i,none⟩ v).heap[b]?=some (.cells cs' T):=by rw [Ya h,e]
theorem box8 {w:World} {b:Nat} {c0 c1 c2 c3 c4 c5 c6 c7 v0 v1 v2 v3 v4 v5 v6 v7:Value} {T:TypeId} (h:w.heap[b]?=some (.cells #[c0,c1,c2,c3,c4,c5,c6,c7] T)) :
    ((((((((w.setCell ⟨b,0,none⟩ v0).setCell ⟨b,1,none⟩ v1).setCell ⟨b,2,none⟩ v2).setCell ⟨b,3,none⟩ v3).setCell ⟨b,4,none⟩ v4).setCell ⟨b,5,none⟩ v5).setCell ⟨b,6,none⟩ v6).setCell ⟨b,7,none⟩ v7).heap[b]?=some (.cells #[v0,v1,v2,v3,v4,v5,v6,v7] T):=by
  have h0:=Vn (i:=0) (v:=v0) h (cs':=#[v0,c1,c2,c3,c4,c5,c6,c7]) rfl;have h1:=Vn (i:=1) (v:=v1) h0 (cs':=#[v0,v1,c2,c3,c4,c5,c6,c7]) rfl;have h2:=Vn (i:=2) (v:=v2) h1 (cs':=#[v0,v1,v2,c3,c4,c5,c6,c7]) rfl;have h3:=Vn (i:=3) (v:=v3) h2 (cs':=#[v0,v1,v2,v3,c4,c5,c6,c7]) rfl;have h4:=Vn (i:=4) (v:=v4) h3 (cs':=#[v0,v1,v2,v3,v4,c5,c6,c7]) rfl;have h5:=Vn (i:=5) (v:=v5) h4 (cs':=#[v0,v1,v2,v3,v4,v5,c6,c7]) rfl;have h6:=Vn (i:=6) (v:=v6) h5 (cs':=#[v0,v1,v2,v3,v4,v5,v6,c7]) rfl;have h7:=Vn (i:=7) (v:=v7) h6 (cs':=#[v0,v1,v2,v3,v4,v5,v6,v7]) rfl;exact h7
theorem yP8d {P:Prop} (h:P:=by
  have hb9:=HBR.out;exact ⟨rfl,bw,a,da,ttl0,x'.kind,rfl,arg_err HE'.out HAR.out,HOA.out,HAY.out,box8 HBX2.out⟩):P:=h
theorem yP8a {P:Prop} (h:P:=by
  have HOA:=hI hob;clear hob
  go_wp2_with (go_at_call 76;(with_reducible refine (HP.out _).mono ?_);rintro e w2 ⟨rfl,hb2⟩;have hbx2:=Zd hb2 HBX.out;have HBX2:=hI hbx2;have kb2:=fun i=>Za hbx2 i;have kb2f:=Zl hbx2;have kb2z:=Zc hbx2;have hr2:=(Zb (thru hb2 HBR.out):ZA Ze w w2).range trivial hlb HR.out;have q0:=hr2 0 _ rfl;have q1:=hr2 1 _ rfl;have q2:=hr2 2 _ rfl;have q3:=hr2 3 _ rfl;have q4:=hr2 4 _ rfl;have q5:=hr2 5 _ rfl;have q6:=hr2 6 _ rfl;have q7:=hr2 7 _ rfl;simp only [Nat.zero_mul,Nat.add_zero] at q0 q1 q2 q3 q4 q5 q6 q7;clear hbx2 hr2)
  go_roundg a.sz
  case rel =>
    exact yP8d
  case measure=>have:=arg_lt HAR.out;omega):P:=h
theorem yP8b {P:Prop} (h:P:=by
  subst hob
  go_wp2_with (go_at_call 76;(with_reducible refine (HP.out _).mono ?_);rintro e w2 ⟨rfl,hb2⟩)
  go_ret;have hb9:=HBR.out;exact ⟨rfl,bw⟩):P:=h
theorem yP8e {P:Prop} (h:P:=by
  have hf:=ZB HE'.out;rcases hk with h|h
  · rw [QS hf (.inl h)];decide
  · exact vQ hf h):P:=h
theorem Vp {B:Nat} (x:Ex) (d:EA) (t:Ttl) (p:Int) (w:World) (he:ZH t p x=0) (hat:x.At (Qx B) w d) :
    Calls Tryz.prog 96 #[(eV x d)] w fun e w'=>e=.returned (.bool (ZF x))∧Below w.heap.size w w':=by
  delta eV
  obtain ⟨ob,hob⟩:∃ b,b=ZF x:=⟨_,rfl⟩
  rw [←hob];have HOB:=hI hob.symm;clear hob;have HE:=hI he;have HA:=hI hat;clear he hat
  go_enter Tryz.func96,Tryz.ntmps96
  go_wp2_with fail
  go_loopg [2] x.sz (fun gk u wr=>u=.bool false∧Below w.heap.size w wr∧∃ (x':Ex) (d':EA) (t':Ttl) (p':Int),x'.sz=gk∧ZH t' p' x'=0∧ZF x'=ob∧x'.At (Qx B) w d'∧wr.heap[w.heap.size]?=some (.cells #[.int .i64 x'.kind,.int .i64 x'.op,.int .i64 x'.line,.int .i64 x'.p,.int .i64 x'.q,.string x'.str,.slice d'.a x'.args.length d'.c,.slice d'.fa x'.funcs.length d'.fc] 37))
  case atStart=>exact ⟨rfl,bw,x,d,t,p,rfl,HE.out,HOB.out,HA.out,Zk rfl⟩
  case round =>
  obtain ⟨rfl,hbr,x',d',t',p',hsz,he',ho',ha',hbx⟩:=hrel;have HBR:=hI hbr;have HE':=hI he';have HO':=hI ho';have HA':=hI ha';have HBX:=hI hbx;have kb:=fun i=>Za hbx i;have kbf:=Zl hbx;have kbz:=Zc hbx;clear hbr he' ho' ha' hbx;by_cases hk:x'.kind=8∨x'.kind=9∨x'.kind=10
  · have hlen:0<x'.args.length:=by
      exact yP8e
    obtain ⟨a,ha⟩:=arg0 hlen;have HAR:=hI ha;obtain ⟨b,off,da,hda,hbB,hlb,hr,hay⟩:=Vz HA'.out ha;have HAY:=hI hay;have hll:x'.args.length≤9223372036854775807:=by have:=(Ex.at_iff.1 HA'.out).2.1.2.1.2;unfold LM at this;omega
    obtain ⟨a0,c0,fa0,fc0⟩:=d';simp only at hda;subst hda;have HR:=hI hr;have hr':=(Zb HBR.out:ZA Ze w wr).range trivial hlb hr;have r0:=hr' 0 _ rfl;have r1:=hr' 1 _ rfl;have r2:=hr' 2 _ rfl;have r3:=hr' 3 _ rfl;have r4:=hr' 4 _ rfl;have r5:=hr' 5 _ rfl;have r6:=hr' 6 _ rfl;have r7:=hr' 7 _ rfl;simp only [Nat.zero_mul,Nat.add_zero] at r0 r1 r2 r3 r4 r5 r6 r7;have hpf:=HO'.out;rw [opens_eq ha,if_pos hk] at hpf;have HPF:=hI hpf;clear hr hr' hay ha hpf
    have hkk:(x'.kind==8)=true∨((x'.kind==8)=false∧(x'.kind==9)=true)∨((x'.kind==8)=false∧(x'.kind==9)=false∧(x'.kind==10)=true):=by
      rcases hk with h|h|h <;> simp [h]
    clear hk;obtain ⟨pb,hpb⟩:∃ q,q=Qf a:=⟨_,rfl⟩
    rw [←hpb] at HPF;have HP:=hI (show ∀ w',Calls Tryz.prog 76 #[(eV a da)] w' fun e w''=>e=.returned (.bool pb)∧Below w'.heap.size w' w'' from fun w'=>by rw [hpb];exact qR a da w');clear hpb;rcases hkk with h8|⟨h8,h9⟩|⟨h8,h9,h10⟩
    all_goals
      cases pb
      · have hob:ob=true:=by rw [←HPF.out];rfl
        exact yP8b
      · have hob:ZF a=ob:=by rw [←HPF.out];simp
        exact yP8a
  · have h8:(x'.kind==8)=false:=by simp;omega
    have h9:(x'.kind==9)=false:=by simp;omega
    have h10:(x'.kind==10)=false:=by simp;omega
    have hob:=HO'.out;rw [vT hk] at hob;have HQ:=hI hob;clear hob hk
    go_wp2_with fail
    go_ret;exact ⟨by rw [←HQ.out];rfl,HBR.out⟩
theorem minus_any {B p m:Nat} {T:Bs} (x:Ex) (d:EA) (t:Ttl) (pk:Int) (w:World) (he:ZH t pk x=0) (hat:x.At (Qx B) w d) (h:zw B p m T w) :
    Calls Tryz.prog 47 #[.pointer (some ⟨p,0,none⟩),(eV x d)] w fun e w'=>e=.returned (.bool (Qi x))∧Below w.heap.size w w':=by
  delta eV
  obtain ⟨ob,hob⟩:∃ b,b=Qi x:=⟨_,rfl⟩
  rw [←hob];have HOB:=hI hob.symm;clear hob;have HE:=hI he;have HA:=hI hat;have HW:=hI h;clear he hat h
  go_enter Tryz.func47,Tryz.ntmps47
  go_wp2_with fail
  go_loopg [4] x.sz (fun gk u wr=>u=.bool false∧Below w.heap.size w wr∧∃ (x':Ex) (d':EA) (t':Ttl) (p':Int),x'.sz=gk∧ZH t' p' x'=0∧Qi x'=ob∧x'.At (Qx B) w d'∧wr.heap[w.heap.size]?=some (.cells #[.int .i64 x'.kind,.int .i64 x'.op,.int .i64 x'.line,.int .i64 x'.p,.int .i64 x'.q,.string x'.str,.slice d'.a x'.args.length d'.c,.slice d'.fa x'.funcs.length d'.fc] 37))
  case atStart=>exact ⟨rfl,bw,x,d,t,pk,rfl,HE.out,HOB.out,HA.out,Zk rfl⟩
  case round =>
  obtain ⟨rfl,hbr,x',d',t',p',hsz,he',ho',ha',hbx⟩:=hrel;have HBR:=hI hbr;have HE':=hI he';have HO':=hI ho';have HA':=hI ha';have HBX:=hI hbx;have kb:=fun i=>Za hbx i;have kbf:=Zl hbx;have kbz:=Zc hbx;clear hbr he' ho' ha' hbx;by_cases h15:x'.kind=15
  · have k15:(x'.kind==15)=true:=by simp [h15]
    have hq:=HO'.out;rw [minus_un h15] at hq;have HQ:=hI hq;clear hq h15
    go_wp2_with fail
    go_ret;exact ⟨by rw [←HQ.out];rfl,HBR.out⟩
  have k15:(x'.kind==15)=false:=by simp;omega
  by_cases hb:x'.kind=16∨x'.kind=17∨x'.kind=18
  · have hlen:0<x'.args.length:=by rw [QS (ZB HE'.out) (by omega)];decide
    obtain ⟨a,ha⟩:=arg0 hlen;have HAR:=hI ha;obtain ⟨b,off,da,hda,hbB,hlb,hr,hay⟩:=Vz HA'.out ha;have HAY:=hI hay;have hll:x'.args.length≤9223372036854775807:=by have:=(Ex.at_iff.1 HA'.out).2.1.2.1.2;unfold LM at this;omega
    obtain ⟨a0,c0,fa0,fc0⟩:=d';simp only at hda;subst hda;have HR:=hI hr;have hr':=(Zb HBR.out:ZA Ze w wr).range trivial hlb hr;have r0:=hr' 0 _ rfl;have r1:=hr' 1 _ rfl;have r2:=hr' 2 _ rfl;have r3:=hr' 3 _ rfl;have r4:=hr' 4 _ rfl;have r5:=hr' 5 _ rfl;have r6:=hr' 6 _ rfl;have r7:=hr' 7 _ rfl;simp only [Nat.zero_mul,Nat.add_zero] at r0 r1 r2 r3 r4 r5 r6 r7;have hpf:=HO'.out;rw [vu ha,if_neg h15,if_pos hb] at hpf;obtain ⟨pb,hpb⟩:∃ q,q=zj x' a:=⟨_,rfl⟩
    rw [←hpb] at hpf;have HPF:=hI hpf;have HP:=hI (show Calls Tryz.prog 79 #[.pointer (some ⟨p,0,none⟩),.agg #[.int .i64 x'.kind,.int .i64 x'.op,.int .i64 x'.line,.int .i64 x'.p,.int .i64 x'.q,.string x'.str,.slice ((⟨some ⟨b,off,none⟩,c0,fa0,fc0⟩:EA)).a x'.args.length ((⟨some ⟨b,off,none⟩,c0,fa0,fc0⟩:EA)).c,.slice ((⟨some ⟨b,off,none⟩,c0,fa0,fc0⟩:EA)).fa x'.funcs.length ((⟨some ⟨b,off,none⟩,c0,fa0,fc0⟩:EA)).fc]] wr fun e w''=>e=.returned (.bool pb)∧Below wr.heap.size wr w'' by rw [hpb];exact left_any x' a ⟨some ⟨b,off,none⟩,c0,fa0,fc0⟩ wr ha (HA'.out.keep (Zb HBR.out) (fun _ h=>h)) (HW.out.below HBR.out))
    have hkk:(x'.kind==16)=true∨((x'.kind==16)=false∧(x'.kind==17)=true)∨((x'.kind==16)=false∧(x'.kind==17)=false∧(x'.kind==18)=true):=by
      rcases hb with h|h|h <;> simp [h]
    clear hr hr' hay ha hpf hpb hb;rcases hkk with h8|⟨h8,h9⟩|⟨h8,h9,h10⟩
    all_goals
      cases pb
      · have hob:Qi a=ob:=by rw [←HPF.out];simp
        have HOA:=hI hob;clear hob
        go_wp2_with (go_at_call 79;(with_reducible refine HP.out.mono ?_);rintro e w2 ⟨rfl,hb2⟩;have hbx2:=Zd hb2 HBX.out;have HBX2:=hI hbx2;have kb2:=fun i=>Za hbx2 i;have kb2f:=Zl hbx2;have kb2z:=Zc hbx2;have hr2:=(Zb (thru hb2 HBR.out):ZA Ze w w2).range trivial hlb HR.out;have q0:=hr2 0 _ rfl;have q1:=hr2 1 _ rfl;have q2:=hr2 2 _ rfl;have q3:=hr2 3 _ rfl;have q4:=hr2 4 _ rfl;have q5:=hr2 5 _ rfl;have q6:=hr2 6 _ rfl;have q7:=hr2 7 _ rfl;simp only [Nat.zero_mul,Nat.add_zero] at q0 q1 q2 q3 q4 q5 q6 q7;clear hbx2 hr2)
        go_roundg a.sz
        case rel =>
          exact yP8d
        case measure=>have:=arg_lt HAR.out;omega
      · have hob:ob=false:=by rw [←HPF.out];rfl
        subst hob
        go_wp2_with (go_at_call 79;(with_reducible refine HP.out.mono ?_);rintro e w2 ⟨rfl,hb2⟩)
        go_ret;have hb9:=HBR.out;exact ⟨rfl,bw⟩
  have k16:(x'.kind==16)=false:=by simp;omega
  have k17:(x'.kind==17)=false:=by simp;omega
  have k18:(x'.kind==18)=false:=by simp;omega
  by_cases hk:x'.kind=8∨x'.kind=9∨x'.kind=10
  · have hlen:0<x'.args.length:=by
      exact yP8e
    obtain ⟨a,ha⟩:=arg0 hlen;have HAR:=hI ha;obtain ⟨b,off,da,hda,hbB,hlb,hr,hay⟩:=Vz HA'.out ha;have HAY:=hI hay;have hll:x'.args.length≤9223372036854775807:=by have:=(Ex.at_iff.1 HA'.out).2.1.2.1.2;unfold LM at this;omega
    obtain ⟨a0,c0,fa0,fc0⟩:=d';simp only at hda;subst hda;have HR:=hI hr;have hr':=(Zb HBR.out:ZA Ze w wr).range trivial hlb hr;have r0:=hr' 0 _ rfl;have r1:=hr' 1 _ rfl;have r2:=hr' 2 _ rfl;have r3:=hr' 3 _ rfl;have r4:=hr' 4 _ rfl;have r5:=hr' 5 _ rfl;have r6:=hr' 6 _ rfl;have r7:=hr' 7 _ rfl;simp only [Nat.zero_mul,Nat.add_zero] at r0 r1 r2 r3 r4 r5 r6 r7;have hpf:=HO'.out;rw [vu ha,if_neg h15,if_neg hb,if_pos hk] at hpf;obtain ⟨pb,hpb⟩:∃ q,q=Qf a:=⟨_,rfl⟩
    rw [←hpb] at hpf;have HPF:=hI hpf;have HP:=hI (show ∀ w',Calls Tryz.prog 76 #[(eV a da)] w' fun e w''=>e=.returned (.bool pb)∧Below w'.heap.size w' w'' from fun w'=>by rw [hpb];exact qR a da w')
    have hkk:(x'.kind==8)=true∨((x'.kind==8)=false∧(x'.kind==9)=true)∨((x'.kind==8)=false∧(x'.kind==9)=false∧(x'.kind==10)=true):=by
      rcases hk with h|h|h <;> simp [h]
    clear hr hr' hay ha hpf hpb hb hk;rcases hkk with h8|⟨h8,h9⟩|⟨h8,h9,h10⟩
    all_goals
      cases pb
      · have hob:ob=false:=by rw [←HPF.out];rfl
        exact yP8b
      · have hob:Qi a=ob:=by rw [←HPF.out];simp
        exact yP8a
  · have h8:(x'.kind==8)=false:=by simp;omega
    have h9:(x'.kind==9)=false:=by simp;omega
    have h10:(x'.kind==10)=false:=by simp;omega
    have hob:=HO'.out;rw [vW h15 hb hk] at hob;subst hob;clear hk hb
    go_wp2_with fail
    go_ret;exact ⟨rfl,HBR.out⟩
theorem yP9a {P:Prop} (h:P:=by
  rcases hown3.2 with ⟨hv,_⟩|⟨g,cap,cur,hv,_⟩
  · exact ⟨_,_,_,hv⟩
  · exact ⟨_,_,_,hv⟩):P:=h
set_option maxRecDepth 100000 in
set_option maxHeartbeats 8000000 in
theorem quote_any (s:ByteArray) (w:World) (hs:s.size≤1048576) :
    Calls Tryz.prog 39 #[.string s] w fun e w'=>e=.returned (.string ⟨(Vv s).toArray⟩)∧Below w.heap.size w w':=by
  obtain ⟨i0,hi,hz0,hz1,hz2⟩:=info_parts infoByte;have hss:s.size≤9223372036854775807:=by omega
  go_enter Tryz.func39,Tryz.ntmps39
  go_wp2_with fail
  go_loopg [3,4] s.size (fun gk v i wr=>∃ k:Nat,gk+k=s.size∧i=.int .i64 k∧Below w.heap.size w wr∧wr.ownsRow w.heap.size 5 1 v (34::((Zg s).take k).flatMap QJ).length (Lib.byteCells (34::((Zg s).take k).flatMap QJ)))
  case atStart=>exact ⟨0,by omega,rfl,bw,⟨rfl,.inr ⟨w.heap.size,1,#[.int .u8 34],rfl,Nat.le_refl _,Zk rfl,Nat.le_refl _,by unfold maxLen;omega,rfl,rfl⟩⟩⟩
  case round =>
  obtain ⟨k,hk,rfl,hbr,hown⟩:=hrel;have HBR:=hI hbr;have HK:=hI hk;obtain ⟨l,hl⟩:∃ l,l=(34::((Zg s).take k).flatMap QJ):=⟨_,rfl⟩
  have hll:l.length≤1+4*s.size:=by
    rw [hl,List.length_cons];have h1:=zm ((Zg s).take k);have h2:((Zg s).take k).length≤s.size:=by rw [List.length_take];exact Nat.min_le_right _ _
    omega
  rw [←hl] at hown;have HL:=hI hl
  have hsl:∃ ao n' cap,u3=Value.slice ao n' cap:=by
    rcases hown.2 with ⟨hv,_⟩|⟨g,cap,cur,hv,_⟩
    · exact ⟨_,_,_,hv⟩
    · exact ⟨_,_,_,hv⟩
  have HOWN:=hI hown;clear hbr hown hl;by_cases hlt:k<s.size
  · have hck:(Zg s)[k]?=some s[k]:=by unfold Zg;rw [List.getElem?_eq_getElem (by simpa using hlt)];rfl
    have HCK:=hI hck;have hc255:=(s[k]).toNat_lt
    have HSTEP:∀ (v':Value) (w3:World) (x:List UInt8),w3.ownsRow w.heap.size 5 1 v' (l.length+x.length) (Lib.byteCells l++Lib.byteCells x)→QJ s[k]=x→w3.ownsRow w.heap.size 5 1 v' (34::((Zg s).take (k+1)).flatMap QJ).length (Lib.byteCells (34::((Zg s).take (k+1)).flatMap QJ)):=by
      intro v' w3 x h1 h2;rw [vx HCK.out,h2,←List.cons_append,←HL.out,List.length_append,Lib.byteCells_append];exact h1
    clear hck;by_cases h10:s[k]=10
    · have hn:s[k].toNat=10:=by rw [h10];rfl
      have t10:(((s[k].toNat:Nat):Int)==10)=true:=by rw [hn];rfl
      go_wp2_with (at_builtin;refine Lib.wpList_append_own_string _ rfl _ _ 60 9 rfl w.heap.size 5 i0 Tryz.underlying60 Tryz.underlying9 hi hz0 hz1 hz2 _ _ _ rfl HOWN.out ⟨#[92,110]⟩ rfl ?c3 ?c4 ?c5 ?_)
      case c3=>unfold maxLen;simp [ByteArray.size];omega
      case c4=>simp [ByteArray.size];omega
      case c5=>exact HBR.out.size
      intro v' w3 hown3 hgrow _;have hb3:Below w.heap.size w w3:=HBR.out.grown hgrow HBR.out.size (fun k hk=>(HOWN.out.lt k hk).1)
      have hsl3:∃ ao n' cap,v'=Value.slice ao n' cap:=by
        exact yP9a
      have HO3:=hI hown3;have HB3:=hI hb3;clear hown3 hgrow hb3
      go_wp2_with fail
      go_roundg (gk - 1)
      case rel=>exact ⟨k+1,by have:=HK.out;omega,by go_num,HB3.out,HSTEP _ _ [92,110] HO3.out (by unfold QJ;rw [if_pos h10])⟩
      case measure=>have:=HK.out;omega
    have n10:s[k].toNat≠10:=fun h=>h10 (UInt8.toNat_inj.1 h);have t10:(((s[k].toNat:Nat):Int)==10)=false:=by simp;omega
    by_cases h9:s[k]=9
    · have hn:s[k].toNat=9:=by rw [h9];rfl
      have t9:(((s[k].toNat:Nat):Int)==9)=true:=by rw [hn];rfl
      go_wp2_with (at_builtin;refine Lib.wpList_append_own_string _ rfl _ _ 60 9 rfl w.heap.size 5 i0 Tryz.underlying60 Tryz.underlying9 hi hz0 hz1 hz2 _ _ _ rfl HOWN.out ⟨#[92,116]⟩ rfl ?c3 ?c4 ?c5 ?_)
      case c3=>unfold maxLen;simp [ByteArray.size];omega
      case c4=>simp [ByteArray.size];omega
      case c5=>exact HBR.out.size
      intro v' w3 hown3 hgrow _;have hb3:Below w.heap.size w w3:=HBR.out.grown hgrow HBR.out.size (fun k hk=>(HOWN.out.lt k hk).1)
      have hsl3:∃ ao n' cap,v'=Value.slice ao n' cap:=by
        exact yP9a
      have HO3:=hI hown3;have HB3:=hI hb3;clear hown3 hgrow hb3
      go_wp2_with fail
      go_roundg (gk - 1)
      case rel=>exact ⟨k+1,by have:=HK.out;omega,by go_num,HB3.out,HSTEP _ _ [92,116] HO3.out (by unfold QJ;rw [if_neg h10,if_pos h9])⟩
      case measure=>have:=HK.out;omega
    have n9:s[k].toNat≠9:=fun h=>h9 (UInt8.toNat_inj.1 h);have t9:(((s[k].toNat:Nat):Int)==9)=false:=by simp;omega
    by_cases h92:s[k]=92∨s[k]=34
    · have he:QJ s[k]=[92,s[k]]:=by unfold QJ;rw [if_neg h10,if_neg h9,if_pos h92]
      have tt:(((s[k].toNat:Nat):Int)==92)=true∨((((s[k].toNat:Nat):Int)==92)=false∧(((s[k].toNat:Nat):Int)==34)=true):=by
        rcases h92 with h|h
        · left;rw [h];rfl
        · right;rw [h];exact ⟨rfl,rfl⟩
      have HE:=hI he;clear he h92;rcases tt with t92|⟨t92,t34⟩
      all_goals
        go_wp2_with (at_builtin;refine wpList_append_own _ rfl _ _ 60 rfl w.heap.size 5 i0 (.int .u8 0) 1 1 Tryz.underlying60 hi hz0 hz1 hz2 rfl (by decide) _ _ _ rfl (HOWN.out.alloc _) ⟨wr.heap.size,0,none⟩ 2 2 [.int .u8 92,.int .u8 s[k].toNat] rfl rfl ?c1 ?c2 ?c3 ?c4 ?c5 ?_)
        case c1=>exact World.news_of_block (heap_alloc_new _ _)
        case c2=>intro u hu;simp at hu;(first|(rcases hu with rfl|rfl|rfl|rfl <;> rfl)|(rcases hu with rfl|rfl <;> rfl)|(subst hu;rfl))
        case c3=>unfold maxLen;omega
        case c4=>omega
        case c5=>have:=HBR.out.size;simp;omega
        intro v' w3 hown3 hgrow _;have hb3:Below w.heap.size w w3:=Below.grown (Zj HBR.out _) hgrow (by have:=HBR.out.size;simp;omega) (fun k hk=>(HOWN.out.lt k hk).1)
        have hsl3:∃ ao n' cap,v'=Value.slice ao n' cap:=by
          exact yP9a
        have HO3:=hI hown3;have HB3:=hI hb3;clear hown3 hgrow hb3
        go_wp2_with fail
        go_roundg (gk - 1)
        case rel=>exact ⟨k+1,by have:=HK.out;omega,by go_num,HB3.out,HSTEP _ _ [92,s[k]] HO3.out HE.out⟩
        case measure=>have:=HK.out;omega
    have n92:s[k].toNat≠92∧s[k].toNat≠34:=⟨fun h=>h92 (.inl (UInt8.toNat_inj.1 h)),fun h=>h92 (.inr (UInt8.toNat_inj.1 h))⟩
    have t92:(((s[k].toNat:Nat):Int)==92)=false:=by simp;omega
    have t34:(((s[k].toNat:Nat):Int)==34)=false:=by simp;omega
    by_cases h32:s[k]<32∨126<s[k]
    · have he:QJ s[k]=[92,48+s[k] / 100,48+s[k] / 10 % 10,48+s[k] % 10]:=by unfold QJ;rw [if_neg h10,if_neg h9,if_neg h92,if_pos h32]
      have HE:=hI he
      have tt:decide (((s[k].toNat:Nat):Int)<32)=true∨(decide (((s[k].toNat:Nat):Int)<32)=false∧decide ((126:Int)<((s[k].toNat:Nat):Int))=true):=by
        simp only [UInt8.lt_iff_toNat_lt] at h32;have e1:(32:UInt8).toNat=32:=rfl;have e2:(126:UInt8).toNat=126:=rfl;rw [e1,e2] at h32;simp only [decide_eq_true_eq,decide_eq_false_iff_not];omega
      clear he h32;rcases tt with t32|⟨t32,t126⟩
      all_goals
        go_wp2_with (at_builtin;refine wpList_append_own _ rfl _ _ 60 rfl w.heap.size 5 i0 (.int .u8 0) 1 1 Tryz.underlying60 hi hz0 hz1 hz2 rfl (by decide) _ _ _ rfl (HOWN.out.alloc _) ⟨wr.heap.size,0,none⟩ 4 4 [.int .u8 92,.int .u8 (48+(s[k].toNat:Int) / 100),.int .u8 (48+(s[k].toNat:Int) / 10 % 10),.int .u8 (48+(s[k].toNat:Int) % 10)] rfl rfl ?c1 ?c2 ?c3 ?c4 ?c5 ?_)
        case c1=>exact World.news_of_block (heap_alloc_new _ _)
        case c2=>intro u hu;simp at hu;(first|(rcases hu with rfl|rfl|rfl|rfl <;> rfl)|(rcases hu with rfl|rfl <;> rfl)|(subst hu;rfl))
        case c3=>unfold maxLen;omega
        case c4=>omega
        case c5=>have:=HBR.out.size;simp;omega
        intro v' w3 hown3 hgrow _;have hb3:Below w.heap.size w w3:=Below.grown (Zj HBR.out _) hgrow (by have:=HBR.out.size;simp;omega) (fun k hk=>(HOWN.out.lt k hk).1)
        have hsl3:∃ ao n' cap,v'=Value.slice ao n' cap:=by
          exact yP9a
        have HO3:=hI hown3;have HB3:=hI hb3;clear hown3 hgrow hb3
        go_wp2_with fail
        go_roundg (gk - 1)
        case rel=>exact ⟨k+1,by have:=HK.out;omega,by go_num,HB3.out,HSTEP _ _ [92,48+s[k] / 100,48+s[k] / 10 % 10,48+s[k] % 10] (by rw [Kr];exact HO3.out) HE.out⟩
        case measure=>have:=HK.out;omega
    · have he:QJ s[k]=[s[k]]:=by unfold QJ;rw [if_neg h10,if_neg h9,if_neg h92,if_neg h32]
      have HE:=hI he;simp only [UInt8.lt_iff_toNat_lt] at h32;have e1:(32:UInt8).toNat=32:=rfl;have e2:(126:UInt8).toNat=126:=rfl;rw [e1,e2] at h32;have t32:decide (((s[k].toNat:Nat):Int)<32)=false:=by simp only [decide_eq_false_iff_not];omega
      have t126:decide ((126:Int)<((s[k].toNat:Nat):Int))=false:=by simp only [decide_eq_false_iff_not];omega
      clear he h32
      go_wp2_with (at_builtin;refine wpList_append_own _ rfl _ _ 60 rfl w.heap.size 5 i0 (.int .u8 0) 1 1 Tryz.underlying60 hi hz0 hz1 hz2 rfl (by decide) _ _ _ rfl (HOWN.out.alloc _) ⟨wr.heap.size,0,none⟩ 1 1 [.int .u8 s[k].toNat] rfl rfl ?c1 ?c2 ?c3 ?c4 ?c5 ?_)
      case c1=>exact World.news_of_block (heap_alloc_new _ _)
      case c2=>intro u hu;simp at hu;(first|(rcases hu with rfl|rfl|rfl|rfl <;> rfl)|(rcases hu with rfl|rfl <;> rfl)|(subst hu;rfl))
      case c3=>unfold maxLen;omega
      case c4=>omega
      case c5=>have:=HBR.out.size;simp;omega
      intro v' w3 hown3 hgrow _;have hb3:Below w.heap.size w w3:=Below.grown (Zj HBR.out _) hgrow (by have:=HBR.out.size;simp;omega) (fun k hk=>(HOWN.out.lt k hk).1)
      have hsl3:∃ ao n' cap,v'=Value.slice ao n' cap:=by
        exact yP9a
      have HO3:=hI hown3;have HB3:=hI hb3;clear hown3 hgrow hb3
      go_wp2_with fail
      go_roundg (gk - 1)
      case rel=>exact ⟨k+1,by have:=HK.out;omega,by go_num,HB3.out,HSTEP _ _ [s[k]] HO3.out HE.out⟩
      case measure=>have:=HK.out;omega
  · have hke:k=s.size:=by omega
    have hq:l++[34]=Vv s:=by
      rw [HL.out,hke];unfold Vv;rw [List.take_of_length_le (by unfold Zg;exact Nat.le_of_eq rfl)]
    have HQ:=hI hq;clear hk hke hq
    go_wp2_with (at_builtin;refine wpList_append_own _ rfl _ _ 60 rfl w.heap.size 5 i0 (.int .u8 0) 1 1 Tryz.underlying60 hi hz0 hz1 hz2 rfl (by decide) _ _ _ rfl (HOWN.out.alloc _) ⟨wr.heap.size,0,none⟩ 1 1 [.int .u8 34] rfl rfl ?c1 ?c2 ?c3 ?c4 ?c5 ?_)
    case c1=>exact World.news_of_block (heap_alloc_new _ _)
    case c2=>intro u hu;simp at hu;subst hu;rfl
    case c3=>unfold maxLen;omega
    case c4=>omega
    case c5=>have:=HBR.out.size;simp;omega
    intro v' w3 hown3 hgrow _;have hb3:Below w.heap.size w w3:=Below.grown (Zj HBR.out _) hgrow (by have:=HBR.out.size;simp;omega) (fun k hk=>(HOWN.out.lt k hk).1);have h9:w3.ownsRow w.heap.size 5 1 v' (l++[34]).length (Lib.byteCells (l++[34])):=by rw [List.length_append,Lib.byteCells_append];exact hown3
    have hcv:=conv_own h9 (by simp);rw [HQ.out] at hcv;have HB3:=hI hb3;clear hown3 hgrow hb3 h9
    go_wp2_with fail
    go_ret;exact ⟨rfl,HB3.out⟩
end Go.Proofs.YtdmdhopfgnlnoaaGreatDoor
