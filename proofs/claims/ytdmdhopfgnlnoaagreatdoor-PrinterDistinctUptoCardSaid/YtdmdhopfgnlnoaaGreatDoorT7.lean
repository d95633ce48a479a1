/- The reference's texts of left sides, and the names that functions may have. -/
import Derived.Test.YtdmdhopfgnlnoaaGreatDoorT1
namespace Go.Proofs.YtdmdhopfgnlnoaaGreatDoor
open Go.RowKit
set_option linter.unusedVariables false
set_option linter.unusedSimpArgs false
set_option maxHeartbeats 4000000
set_option maxRecDepth 100000
def ZN:Ex→ByteArray × Bool
  | .mk k _ _ _ _ s [x,y] _=>if k=7 then (s,true) else if k=8∧y.kind=5∧ZG y.str=true then ((ZN x).1++⟨#[46]⟩++y.str,(ZN x).2) else (⟨#[]⟩,false)
  | .mk k _ _ _ _ s _ _=>if k=7 then (s,true) else (⟨#[]⟩,false)
theorem leftR_7 {x:Ex} (h:x.kind=7):ZN x=(x.str,true):=by
  obtain ⟨k,o,l,p,q,s,args,f⟩:=x;simp only [Ex.kind] at h;subst h;rcases args with _|⟨a,_|⟨b,_|⟨c,r⟩⟩⟩ <;> simp [ZN,Ex.str]
theorem vZ {x a b:Ex} (hx:x.args=[a,b]) (h:x.kind≠7):ZN x=if x.kind=8∧b.kind=5∧ZG b.str=true then ((ZN a).1++⟨#[46]⟩++b.str,(ZN a).2) else (⟨#[]⟩,false):=by
  obtain ⟨k,o,l,p,q,s,args,f⟩:=x;simp only [Ex.kind,Ex.args] at h hx ⊢;subst hx;simp only [ZN,if_neg h];rfl
theorem zD {x:Ex} (h:x.kind≠7) (h2:x.kind≠8∨x.args.length≠2):ZN x=(⟨#[]⟩,false):=by
  obtain ⟨k,o,l,p,q,s,args,f⟩:=x;simp only [Ex.kind,Ex.args] at h h2;rcases args with _|⟨a,_|⟨b,_|⟨c,r⟩⟩⟩
  · simp [ZN,if_neg h]
  · simp [ZN,if_neg h]
  · simp only [ZN,if_neg h];rw [if_neg];rintro ⟨h9,-⟩;simp at h2;exact h2 h9
  · simp [ZN,if_neg h]
theorem zQ:∀ (n:Nat) (x:Ex),x.wz≤n→(ZN x).1.size≤x.wz:=by
  intro n
  induction n with
  | zero=>intro x hx;have:=x.wz_eq;omega
  | succ n ih =>
    intro x hx;have hw:=x.wz_eq;by_cases h7:x.kind=7
    · rw [leftR_7 h7];show x.str.size≤_;omega
    · by_cases h8:x.kind≠8∨x.args.length≠2
      · rw [zD h7 h8];exact Nat.zero_le _
      · obtain ⟨a,b,hab⟩:∃ a b,x.args=[a,b]:=by
          have h2:x.args.length=2:=Decidable.not_not.1 fun h9=>h8 (.inr h9)
          match hq:x.args,h2 with
          | [a,b],_=>exact ⟨a,b,rfl⟩
        rw [vZ hab h7];rw [hab] at hw;simp only [Ex.wzs] at hw;split
        · have h1:=ih a (by omega);have h2:=b.wz_eq;simp only [ByteArray.size_append];have h3:(⟨#[46]⟩:ByteArray).size=1:=rfl;omega
        · exact Nat.zero_le _
theorem JS {x y:Ex} {d:EA} {w:World} {i:Nat} (hat:x.At Ze w d) (hy:x.args[i]?=some y):∃ b off dy,d.a=some ⟨b,off,none⟩∧b<w.heap.size∧w.rangeAt b (off+i*8) [.int .i64 y.kind,.int .i64 y.op,.int .i64 y.line,.int .i64 y.p,.int .i64 y.q,.string y.str,.slice dy.a y.args.length dy.c,.slice dy.fa y.funcs.length dy.fc]∧y.At Ze w dy:=by
  obtain ⟨b,off,h1,h2⟩:=(Ex.at_iff.1 hat).2.2.1;obtain ⟨ha,-,hlb⟩:=h1 (by intro h9;rw [h9] at hy;simp at hy);obtain ⟨cs,hr,dy,rfl,hay⟩:=h2 i y hy;exact ⟨b,off,dy,ha,hlb,hr,hay⟩
def LeftC (n:Nat):Prop:=∀ (x:Ex) (d:EA) (w:World),x.wz≤n→n≤1073741824→x.At Ze w d→Calls Tryz.prog 106 #[.agg #[.int .i64 x.kind,.int .i64 x.op,.int .i64 x.line,.int .i64 x.p,.int .i64 x.q,.string x.str,.slice d.a x.args.length d.c,.slice d.fa x.funcs.length d.fc]] w fun e w'=>e=.returned (.tuple #[.string (ZN x).1,.bool (ZN x).2])∧Below w.heap.size w w'
theorem yT7a {P:Prop} (h:P:=by
  go_enter Tryz.func106,Tryz.ntmps106
  go_wp2_with fail
  refine bodyPost_ret (v:=.tuple #[.string ⟨#[]⟩,.bool false]) (by simp [results,Tryz.results106,go_sem]) rfl ?_;exact ⟨rfl,bw⟩):P:=h
theorem yT7b {P:Prop} (h:P:=by
  rw [HF.out];refine bodyPost_ret (v:=.tuple #[.string ⟨#[]⟩,.bool false]) (by simp [results,Tryz.results106,go_sem]) rfl ?_;exact ⟨rfl,HB1.out⟩):P:=h
theorem left_stepR {n:Nat} (hL:LeftC n):LeftC (n+1):=by
  intro x d w hwz hn hat;have hlen:x.args.length≤9223372036854775807:=by have:=(Ex.at_iff.1 hat).2.1.2.1.2;unfold LM at this;omega
  have hlc:x.args.length≤d.c:=(Ex.at_iff.1 hat).2.1.1;cases h7:(x.kind==7)
  case true =>
    rw [leftR_7 (by simpa using h7)]
    go_enter Tryz.func106,Tryz.ntmps106
    go_wp2_with fail
    refine bodyPost_ret (v:=.tuple #[.string x.str,.bool true]) (by simp [results,Tryz.results106,go_sem]) rfl ?_;exact ⟨rfl,bw⟩
  have hk7:x.kind≠7:=by simpa using h7
  cases h8:(x.kind==8)
  case false =>
    have h8':(x.kind != 8)=true:=by unfold bne;rw [h8];rfl
    rw [zD hk7 (.inl (by simpa using h8))];exact yT7a
  have h8':(x.kind != 8)=false:=by unfold bne;rw [h8];rfl
  have hk8:x.kind=8:=by simpa using h8
  by_cases h2:x.args.length=2
  case neg =>
    have h2':((x.args.length:Int) != 2)=true:=by simp;omega
    rw [zD hk7 (.inr h2)];clear hk8;exact yT7a
  have h2':((x.args.length:Int) != 2)=false:=by rw [h2];rfl
  obtain ⟨a,b,hab⟩:∃ a b,x.args=[a,b]:=by
    match hq:x.args,h2 with
    | [a,b],_=>exact ⟨a,b,rfl⟩
  obtain ⟨ab,ao,da,hda,hlb,hra,haa⟩:=JS hat (i:=0) (y:=a) (by rw [hab];rfl);obtain ⟨ab2,ao2,db,hdb,-,hrb,hbb⟩:=JS hat (i:=1) (y:=b) (by rw [hab];rfl);rw [hda] at hdb;cases hdb;have hl1:1<x.args.length:=by omega
  have hl0:0<x.args.length:=by omega
  have hbs:b.str.size≤MX:=(Ex.at_iff.1 hbb).1.2.2.2.2.2;have HRES:=hI (vZ hab hk7);have hwz2:a.wz≤n:=by have h1:=x.wz_eq;have h2:=b.wz_eq;rw [hab] at h1;simp only [Ex.wzs] at h1;omega
  have hs1:(ZN a).1.size≤1073741824:=Nat.le_trans (zQ _ a (Nat.le_refl _)) (by omega);have hs2:b.str.size≤1073741824:=(by have h1:=x.wz_eq;have h2:=b.wz_eq;rw [hab] at h1;simp only [Ex.wzs] at h1;omega)
  have hs3:((ZN a).1++⟨#[46]⟩:ByteArray).size≤1073741825:=by rw [ByteArray.size_append];have:(⟨#[46]⟩:ByteArray).size=1:=rfl;omega
  obtain ⟨w1,hw1⟩:=vG x d w;have HB1:=hI (show Below w.heap.size w w1 by rw [hw1];exact bw);have HBX:=hI (vU x d hw1);have HRB:=hI hrb;have HRA:=hI hra;have HCL:=hI (show ∀ w',Below w.heap.size w w'→Calls Tryz.prog 106 #[(eV a da)] w' fun e w''=>e=.returned (.tuple #[.string (ZN a).1,.bool (ZN a).2])∧Below w'.heap.size w' w'' from fun w' hb=>hL a da w' hwz2 (by omega) (haa.keep (Zb hb) (fun _ h=>h)));have HNB:=hI (show ∀ w',Calls Tryz.prog 102 #[.string b.str] w' fun e w''=>e=.returned (.bool (ZG b.str))∧w''=w' from fun w'=>VO b.str w' hbs);have kb:=fun i=>Za HBX.out i;have kbz:=Zc HBX.out;have hr1:=(Zb HB1.out:ZA Ze w w1).range trivial hlb HRB.out;have b0:=hr1 0 _ rfl;have b4:=hr1 5 _ rfl;have hr0:=(Zb HB1.out:ZA Ze w w1).range trivial hlb HRA.out;have a0:=hr0 0 _ rfl;have a1:=hr0 1 _ rfl;have a2:=hr0 2 _ rfl;have a3:=hr0 3 _ rfl;have a4:=hr0 4 _ rfl;have a5:=hr0 5 _ rfl;have a6:=hr0 6 _ rfl;have a7:=hr0 7 _ rfl;simp only [Nat.zero_mul,Nat.one_mul,Nat.add_zero] at a0 a1 a2 a3 a4 a5 a6 a7 b0 b4;obtain ⟨a9,c9,fa9,fc9⟩:=d;simp only at hda hlc;subst hda;clear hr1 hr0 hra hrb haa hbb hbs hwz2 hat hwz hk8 hk7 hab h2
  go_enter Tryz.func106,Tryz.ntmps106
  go_upto_region 1 with fail
  rw [←hw1];clear hw1;cases h5:(b.kind==5)
  · have h5':(b.kind != 5)=true:=by unfold bne;rw [h5];rfl
    have HF:=hI (show ZN x=(⟨#[]⟩,false) by rw [HRES.out,if_neg];rintro ⟨-,h9,-⟩;rw [h9] at h5;cases h5)
    go_wp2_with fail
    exact yT7b
  · have h5':(b.kind != 5)=false:=by unfold bne;rw [h5];rfl
    cases hnb:ZG b.str
    · have HF:=hI (show ZN x=(⟨#[]⟩,false) by rw [HRES.out,if_neg];rintro ⟨-,-,h9⟩;rw [h9] at hnb;cases hnb);rw [hnb] at HNB;clear hnb
      go_wp2_with (go_at_call 102;(with_reducible refine (HNB.out _).mono ?_);rintro e w2 ⟨rfl,hw2⟩;subst w2)
      exact yT7b
    · have HF:=hI (show ZN x=((ZN a).1++⟨#[46]⟩++b.str,(ZN a).2) by rw [HRES.out,if_pos ⟨by simpa using h8,by simpa using h5,hnb⟩]);rw [hnb] at HNB;clear hnb
      go_wp2_with (first
        | (go_at_call 102;(with_reducible refine (HNB.out _).mono ?_);rintro e w2 ⟨rfl,hw2⟩;subst w2)
        | (go_at_call 106;(with_reducible refine (HCL.out _ HB1.out).mono ?_);rintro e w3 ⟨rfl,hb3⟩;have HB3:=hI (thru hb3 HB1.out);have hbx3:=Zd hb3 HBX.out;have k3:=fun i=>Za hbx3 i;have kz3:=Zc hbx3;have hr3:=(Zb HB3.out:ZA Ze w w3).range trivial hlb HRB.out;have x4:=hr3 5 _ rfl;simp only [Nat.one_mul] at x4;clear hr3 hbx3 hb3))
      rw [HF.out];refine bodyPost_ret (v:=.tuple #[.string ((ZN a).1++⟨#[46]⟩++b.str),.bool (ZN a).2]) (by simp [results,Tryz.results106,go_sem]) rfl ?_;exact ⟨rfl,HB3.out⟩
theorem left_all (n:Nat):LeftC n:=by
  induction n with
  | zero=>intro x d w h;have:=x.wz_eq;omega
  | succ n ih=>exact left_stepR ih
theorem YZ (x:Ex) (d:EA) (w:World) (hw:x.wz≤1073741824) (hat:x.At Ze w d):Calls Tryz.prog 106 #[.agg #[.int .i64 x.kind,.int .i64 x.op,.int .i64 x.line,.int .i64 x.p,.int .i64 x.q,.string x.str,.slice d.a x.args.length d.c,.slice d.fa x.funcs.length d.fc]] w fun e w'=>e=.returned (.tuple #[.string (ZN x).1,.bool (ZN x).2])∧Below w.heap.size w w':=left_all _ x d w (Nat.le_refl _) hw hat
def QZ (x:Ex):ByteArray:=match x.args with
  | [a,b]=>(ZN a).1++⟨#[58]⟩++b.str
  | _=>⟨#[]⟩
theorem rcol2_any (x:Ex) (d:EA) (w:World) (hwz:x.wz≤1073741824) (hl:x.args.length=2) (hat:x.At Ze w d) :
    Calls Tryz.prog 107 #[(eV x d)] w fun e w'=>e=.returned (.string (QZ x))∧Below w.heap.size w w':=by
  delta eV
  obtain ⟨a,b,hab⟩:∃ a b,x.args=[a,b]:=by
    match hq:x.args,hl with
    | [a,b],_=>exact ⟨a,b,rfl⟩
  obtain ⟨ab,ao,da,hda,hlb,hra,haa⟩:=JS hat (i:=0) (y:=a) (by rw [hab];rfl);obtain ⟨ab2,ao2,db,hdb,-,hrb,hbb⟩:=JS hat (i:=1) (y:=b) (by rw [hab];rfl);rw [hda] at hdb;cases hdb;have HRES:=hI (show QZ x=(ZN a).1++⟨#[58]⟩++b.str by unfold QZ;rw [hab]);have hlc:x.args.length≤d.c:=(Ex.at_iff.1 hat).2.1.1;have hlen:x.args.length≤9223372036854775807:=by omega
  have hl1:1<x.args.length:=by omega
  have hl0:0<x.args.length:=by omega
  have hs1:(ZN a).1.size≤1073741824:=Nat.le_trans (zQ _ a (Nat.le_refl _)) (by have h1:=x.wz_eq;rw [hab] at h1;simp only [Ex.wzs] at h1;omega);have hs2:b.str.size≤1073741824:=(by have h1:=x.wz_eq;have h2:=b.wz_eq;rw [hab] at h1;simp only [Ex.wzs] at h1;omega)
  have hs3:((ZN a).1++⟨#[58]⟩:ByteArray).size≤1073741825:=by rw [ByteArray.size_append];have:(⟨#[58]⟩:ByteArray).size=1:=rfl;omega
  obtain ⟨w1,hw1⟩:=vG x d w;have HB1:=hI (show Below w.heap.size w w1 by rw [hw1];exact bw);have HBX:=hI (vU x d hw1);have HRB:=hI hrb;have HRA:=hI hra;have HCL:=hI (show ∀ w',Below w.heap.size w w'→Calls Tryz.prog 106 #[(eV a da)] w' fun e w''=>e=.returned (.tuple #[.string (ZN a).1,.bool (ZN a).2])∧Below w'.heap.size w' w'' from fun w' hb=>YZ a da w' (by have h1:=x.wz_eq;rw [hab] at h1;simp only [Ex.wzs] at h1;omega) (haa.keep (Zb hb) (fun _ h=>h)));have kb:=fun i=>Za HBX.out i;have kbz:=Zc HBX.out;have hr0:=(Zb HB1.out:ZA Ze w w1).range trivial hlb HRA.out;have a0:=hr0 0 _ rfl;have a1:=hr0 1 _ rfl;have a2:=hr0 2 _ rfl;have a3:=hr0 3 _ rfl;have a4:=hr0 4 _ rfl;have a5:=hr0 5 _ rfl;have a6:=hr0 6 _ rfl;have a7:=hr0 7 _ rfl;simp only [Nat.zero_mul,Nat.add_zero] at a0 a1 a2 a3 a4 a5 a6 a7;obtain ⟨a9,c9,fa9,fc9⟩:=d;simp only at hda hlc;subst hda;clear hr0 hra hrb haa hbb hat hab hl;rw [HRES.out]
  go_enter Tryz.func107,Tryz.ntmps107
  go_upto_region 1 with fail
  rw [←hw1];clear hw1
  go_wp2_with (go_at_call 106;(with_reducible refine (HCL.out _ HB1.out).mono ?_);rintro e w3 ⟨rfl,hb3⟩;have HB3:=hI (thru hb3 HB1.out);have hbx3:=Zd hb3 HBX.out;have k3:=fun i=>Za hbx3 i;have kz3:=Zc hbx3;have hr3:=(Zb HB3.out:ZA Ze w w3).range trivial hlb HRB.out;have x4:=hr3 5 _ rfl;simp only [Nat.one_mul] at x4;clear hr3 hbx3 hb3)
  go_ret;exact ⟨rfl,HB3.out⟩
def Qp (s:St):List ByteArray :=
  if s.kind=2 then [(s.names.headD default).1]
  else if s.kind=3∧s.left.length=1∧s.right.length=1 then
    (if (ZN (s.left.headD default)).2=true then (if (s.left.headD default).kind=8 then [⟨#[]⟩,(ZN (s.left.headD default)).1,QZ (s.left.headD default)] else [⟨#[]⟩,(ZN (s.left.headD default)).1]) else [⟨#[]⟩])
  else [⟨#[]⟩]
theorem rows_own {w:World} {base:Nat} {v:Value} {l:List ByteArray} (h:w.ownsRow base 9 1 v l.length (l.map Value.string)) (hs:∀ s ∈ l,s.size≤MX) :
    ∃ a c,v=.slice a l.length c∧Rows Ze w 1 QR l a∧l.length≤c:=by
  rcases h.2 with ⟨rfl,h0⟩|⟨g,cap,cur,rfl,_,hg,hc,_,_,htk⟩
  · have hl0:l=[]:=List.length_eq_zero_iff.1 h0;subst hl0;exact ⟨none,0,rfl,Rows.nil _,Nat.le_refl _⟩
  · refine ⟨some ⟨g,0,none⟩,cap,rfl,⟨g,0,fun _=>⟨rfl,trivial,Zc hg⟩,fun i x hx=>⟨[.string x],?_,rfl,hs x (List.mem_of_getElem? hx)⟩⟩,hc⟩;intro j v hj;cases j with
    | succ j=>simp at hj
    | zero =>
      simp at hj;subst hj;rw [Za hg];have h3:(cur.toList.take (l.length*1))[i]?=some (.string x):=by rw [htk,List.getElem?_map,hx];rfl
      rw [List.getElem?_take] at h3;split at h3
      · simpa using h3
      · cases h3
theorem qv (w:World) (s:ByteArray):(w.alloc (.cells #[.string s] 9)).ownsRow w.heap.size 9 1 (.slice (some ⟨w.heap.size,0,none⟩) 1 1) 1 [.string s] :=
  ⟨rfl,.inr ⟨w.heap.size,1,#[.string s],rfl,Nat.le_refl _,Zk rfl,Nat.le_refl _,by unfold maxLen;omega,rfl,rfl⟩⟩
theorem left_row {x:St} {y:Ex} {d:SA} {w:World} {i:Nat} (hat:x.At Ze w d) (hy:x.left[i]?=some y):∃ b off dy,d.la=some ⟨b,off,none⟩∧b<w.heap.size∧w.rangeAt b (off+i*8) [.int .i64 y.kind,.int .i64 y.op,.int .i64 y.line,.int .i64 y.p,.int .i64 y.q,.string y.str,.slice dy.a y.args.length dy.c,.slice dy.fa y.funcs.length dy.fc]∧y.At Ze w dy:=by
  obtain ⟨b,off,h1,h2⟩:=(St.at_iff.1 hat).2.2.2.1;obtain ⟨ha,-,hlb⟩:=h1 (by intro h9;rw [h9] at hy;simp at hy);obtain ⟨cs,hr,dy,rfl,hay⟩:=h2 i y hy;exact ⟨b,off,dy,ha,hlb,hr,hay⟩
structure zd (s:St) (w:World) (e:Ending) (w':World):Prop where
  below:Below w.heap.size w w'
  run:∃ a c,e=.returned (.slice a (Qp s).length c)∧Rows Ze w' 1 QR (Qp s) a∧(Qp s).length≤c
theorem zd.of {s:St} {w w1 w':World} {v:Value} {l:List ByteArray} (hl:Qp s=l) (hb1:Below w.heap.size w w1) (hb:Below w1.heap.size w1 w') (h:w'.ownsRow w1.heap.size 9 1 v l.length (l.map Value.string)) (hs:∀ s ∈ l,s.size≤MX):zd s w (.returned v) w':=by
  obtain ⟨a,c,rfl,h1,h2⟩:=rows_own h hs;exact ⟨thru hb hb1,a,c,by rw [hl],by rw [hl];exact h1,by rw [hl];exact h2⟩
theorem infoStrR:(Tryz.prog.info? 9).map (fun i=>(i.zero,i.size,i.bytes))=some (some (.string ⟨#[]⟩),1,16):=by kernel_rfl
theorem leftR_8 {x:Ex} (h:(ZN x).2=true) (hk:x.kind=8):x.args.length=2:=by
  apply Classical.byContradiction;intro h9;rw [zD (by omega) (.inr h9)] at h;cases h
set_option maxRecDepth 100000 in
set_option maxHeartbeats 8000000 in
theorem rallow_any (s:St) (d:SA) (w:World) (hwz:s.wz≤1073741824) (hat:s.At Ze w d) (hn:s.kind=2→0<s.names.length) :
    Calls Tryz.prog 74 #[(sV s d)] w (zd s w):=by
  delta sV
  obtain ⟨i0,hi,hz0,hz1,hz2⟩:=info_parts infoStrR;obtain ⟨w1,hw1⟩:=zF s d w;have HB1:=hI (show Below w.heap.size w w1 by rw [hw1];exact bw);have HBX:=hI (zz s d hw1);have hsz1:w.heap.size<w1.heap.size:=by rw [hw1];simp
  have kb:=fun i=>Za HBX.out i;have kbz:=Zc HBX.out;have HW1:=hI hw1;have hLen:=(St.at_iff.1 hat).2.1;have HA:=hI hat;by_cases h2:s.kind=2
  · have hnl:=hn h2;obtain ⟨nn,hn0⟩:∃ nn,s.names[0]?=some nn:=⟨_,List.getElem?_eq_getElem hnl⟩
    obtain ⟨bn,offn,hdna,hlbn,hrn,hnsz⟩:∃ bn offn,d.na=some ⟨bn,offn,none⟩∧bn<w.heap.size∧w.rangeAt bn offn [.string nn.1,.int .i64 nn.2]∧nn.1.size≤MX:=by
      obtain ⟨bn,offn,h1,h2⟩:=(St.at_iff.1 hat).2.2.1;obtain ⟨h3,h4,h5⟩:=h1 (by intro h9;rw [h9] at hn0;simp at hn0);obtain ⟨cs,hr,rfl,hz,-⟩:=h2 0 nn hn0;rw [Nat.zero_mul,Nat.add_zero] at hr;exact ⟨bn,offn,h3,h5,hr,hz⟩
    have hnh:(s.names.headD default)=nn:=by cases hq:s.names with|nil=>rw [hq] at hn0;cases hn0|cons _ _=>rw [hq] at hn0;simp at hn0;simp [hn0]
    have hl:Qp s=[nn.1]:=by unfold Qp;rw [if_pos h2,hnh]
    have HL:=hI hl;have HNS:=hI hnsz;have k2:=kT 2 h2;have hr':=(Zb HB1.out:ZA Ze w w1).range trivial hlbn hrn;have c0:=hr' 0 _ rfl;have hnl2:s.names.length≤9223372036854775807:=by have:=hLen.2.1.2;unfold LM at this;omega
    obtain ⟨na0,nc0,la0,lc0,ra0,rc0,ba0,bc0⟩:=d;simp only at hdna;subst hdna;simp only [Nat.add_zero] at c0;clear hn h2 hat hw1 hl hr' hrn hnh hn0 hnsz
    go_enter Tryz.func74,Tryz.ntmps74
    go_upto_region 1 with fail
    rw [←HW1.out]
    go_wp2_with fail
    go_ret;exact zd.of HL.out HB1.out (Zj (Below.refl _ _) _) (qv w1 nn.1) (by intro s hs;rw [List.mem_singleton.1 hs];exact HNS.out)
  have k2:(s.kind==2)=false:=by simp;exact h2
  have HE:=hI (show zd s w=zd s w from rfl);by_cases hc:s.kind=3∧s.left.length=1∧s.right.length=1
  case neg =>
    have hl:Qp s=[⟨#[]⟩]:=by unfold Qp;rw [if_neg h2,if_neg hc]
    have HL:=hI hl
    have hcase:((s.kind != 3)=true)∨((s.kind != 3)=false∧((s.left.length:Int) != 1)=true)∨((s.kind != 3)=false∧((s.left.length:Int) != 1)=false∧((s.right.length:Int) != 1)=true):=by
      by_cases h3:s.kind=3
      · by_cases h4:s.left.length=1
        · by_cases h5:s.right.length=1
          · exact absurd ⟨h3,h4,h5⟩ hc
          · right;right;exact ⟨by rw [h3];rfl,by rw [h4];rfl,by simp;omega⟩
        · right;left;exact ⟨by rw [h3];rfl,by simp;omega⟩
      · left;simp;exact h3
    have hll2:s.left.length≤9223372036854775807:=by have:=hLen.2.2.2.1.2;unfold LM at this;omega
    have hrl2:s.right.length≤9223372036854775807:=by have:=hLen.2.2.2.2.2.1.2;unfold LM at this;omega
    clear hn h2 hat hw1 hl hc hLen;rcases hcase with t1|⟨t1,t2⟩|⟨t1,t2,t3⟩
    all_goals
      go_enter Tryz.func74,Tryz.ntmps74
      go_upto_region 1 with fail
      rw [←HW1.out]
      go_wp2_with fail
      go_ret;exact zd.of HL.out HB1.out (Zj (Below.refl _ _) _) (qv w1 ⟨#[]⟩) (by intro s hs;rw [List.mem_singleton.1 hs];exact Nat.zero_le _)
  obtain ⟨h3,h4,h5⟩:=hc
  obtain ⟨z,hz⟩:∃ z,s.left=[z]:=by
    match hq:s.left,h4 with
    | [z],_=>exact ⟨z,rfl⟩
  obtain ⟨b3,off3,dz,hdla,hlb3,hrz,haz⟩:=left_row hat (i:=0) (y:=z) (by rw [hz];rfl);have hzz:z.wz≤1073741824:=by have h1:=s.wz_eq;rw [hz] at h1;simp only [Ex.wzs] at h1;omega
  have hal:Qp s=if (ZN z).2=true then (if z.kind=8 then [⟨#[]⟩,(ZN z).1,QZ z] else [⟨#[]⟩,(ZN z).1]) else [⟨#[]⟩]:=by
    unfold Qp;rw [if_neg h2,if_pos ⟨h3,h4,h5⟩,hz];rfl
  have HAL:=hI hal;have HAZ:=hI haz;have t1:(s.kind != 3)=false:=by rw [h3];rfl
  have t2:((s.left.length:Int) != 1)=false:=by rw [h4];rfl
  have t3:((s.right.length:Int) != 1)=false:=by rw [h5];rfl
  have hls:=zQ _ z (Nat.le_refl _);have hlm:(ZN z).1.size≤MX:=by unfold MX;omega
  have HLM:=hI hlm;have hll:0<s.left.length:=by omega
  have hll2:s.left.length≤9223372036854775807:=by omega
  have hrl2:s.right.length≤9223372036854775807:=by omega
  have HRZ:=hI hrz;have HLC:=hI (show ∀ w',Below w.heap.size w w'→Calls Tryz.prog 106 #[(eV z dz)] w' fun e w''=>e=.returned (.tuple #[.string (ZN z).1,.bool (ZN z).2])∧Below w'.heap.size w' w'' from fun w' hb=>YZ z dz w' hzz (HAZ.out.keep (Zb hb) (fun _ h=>h)));have hr':=(Zb HB1.out:ZA Ze w w1).range trivial hlb3 HRZ.out;have c0:=hr' 0 _ rfl;have c1:=hr' 1 _ rfl;have c2:=hr' 2 _ rfl;have c3:=hr' 3 _ rfl;have c4:=hr' 4 _ rfl;have c5:=hr' 5 _ rfl;have c6:=hr' 6 _ rfl;have c7:=hr' 7 _ rfl;simp only [Nat.zero_mul,Nat.add_zero] at c0 c1 c2 c3 c4 c5 c6 c7;have HCOL:=hI (show (ZN z).2=true→z.kind=8→∀ w',Below w.heap.size w w'→Calls Tryz.prog 107 #[.agg #[.int .i64 z.kind,.int .i64 z.op,.int .i64 z.line,.int .i64 z.p,.int .i64 z.q,.string z.str,.slice dz.a z.args.length dz.c,.slice dz.fa z.funcs.length dz.fc]] w' fun e w''=>e=.returned (.string (QZ z))∧Below w'.heap.size w' w'' from fun q1 q2 w' hb=>rcol2_any z dz w' hzz (leftR_8 q1 q2) (HAZ.out.keep (Zb hb) (fun _ h=>h)))
  have HCS:=hI (show (QZ z).size≤MX by
    unfold QZ;split
    · rename_i a b hab;have h1:=z.wz_eq;have h2:=b.wz_eq;have h3:=zQ _ a (Nat.le_refl _);rw [hab] at h1;simp only [Ex.wzs] at h1;simp only [ByteArray.size_append];have h4:(⟨#[58]⟩:ByteArray).size=1:=rfl;unfold MX;omega
    · exact Nat.zero_le _)
  obtain ⟨na0,nc0,la0,lc0,ra0,rc0,ba0,bc0⟩:=d;simp only at hdla;subst hdla;obtain ⟨lt,hlt⟩:∃ q,q=(ZN z).1:=⟨_,rfl⟩
  obtain ⟨ok,hok⟩:∃ q,q=(ZN z).2:=⟨_,rfl⟩
  rw [←hlt,←hok] at HLC HAL;rw [←hlt] at HLM;rw [←hok] at HCOL;obtain ⟨ct,hct⟩:∃ q,q=QZ z:=⟨_,rfl⟩
  rw [←hct] at HCOL HCS HAL;clear hn h2 hat hw1 hLen h3 h4 h5 hz hrz haz hzz hal hls hlm hr' hlt hok hct HE hwz
  go_enter Tryz.func74,Tryz.ntmps74
  go_upto_region 1 with fail
  rw [←HW1.out];have HOWN1:=hI (qv w1 ⟨#[]⟩);have hlb4:b3<w1.heap.size:=by omega
  cases ok
  · have HL:=hI (show Qp s=[⟨#[]⟩] by rw [HAL.out];rfl)
    go_wp2_with (go_at_call 106;(with_reducible refine (HLC.out _ (by have h9:=HB1.out;exact bw)).mono ?_);rintro e w3 ⟨rfl,hb3⟩;have HB3:=hI hb3;clear hb3)
    go_ret;exact zd.of HL.out HB1.out (thru HB3.out (Zj (Below.refl _ _) _)) (HOWN1.out.kept (row:=none) ⟨HB3.out.os,HB3.out.tape,HB3.out.output,HB3.out.size,fun q hq _=>HB3.out.block q hq⟩ (.inr (by simp [Value.ownBlock]))) (by intro s hs;rw [List.mem_singleton.1 hs];exact Nat.zero_le _)
  · go_wp2_with (first
      | (go_at_call 106;(with_reducible refine (HLC.out _ (by have h9:=HB1.out;exact bw)).mono ?_);rintro e w3 ⟨rfl,hb3⟩;have HB3:=hI hb3;have HOWN3:=hI (HOWN1.out.kept (row:=none) ⟨hb3.os,hb3.tape,hb3.output,hb3.size,fun q hq _=>hb3.block q hq⟩ (.inr (by simp [Value.ownBlock])));clear hb3)
      | (at_builtin;refine wpList_append_own _ rfl _ _ 72 rfl w1.heap.size 9 i0 (.string ⟨#[]⟩) 1 16 Tryz.underlying72 hi hz0 hz1 hz2 rfl (by decide) _ _ _ rfl (HOWN3.out.alloc _) ⟨w3.heap.size,0,none⟩ 1 1 [.string lt] rfl rfl ?d1 ?d2 ?d3 ?d4 ?d5 ?_))
    case d1=>exact World.news_of_block (heap_alloc_new _ _)
    case d2=>intro u hu;simp at hu;subst hu;rfl
    case d3=>unfold maxLen;omega
    case d4=>omega
    case d5=>have h9:=HB3.out.size;simp at h9 ⊢;omega
    intro v4 w4 hown4 hgrow4 _;have hb34:Below w1.heap.size w1 w3:=thru HB3.out (Zj (Below.refl _ _) _);have hb4:Below w1.heap.size w1 w4:=Below.grown (Zj hb34 _) hgrow4 (by have:=hb34.size;simp;omega) (fun q hq=>(HOWN3.out.lt q hq).1)
    have hsl4:∃ ao n' cap,v4=Value.slice ao n' cap:=by
      rcases hown4.2 with ⟨hv,_⟩|⟨g,cap,cur,hv,_⟩
      · exact ⟨_,_,_,hv⟩
      · exact ⟨_,_,_,hv⟩
    have HOWN4:=hI hown4;have HB4:=hI hb4;have hbx4:=Zd hb4 HBX.out;have k4:=fun i=>Za hbx4 i;have kz4:=Zc hbx4;have hr4:=(Zb (thru hb4 HB1.out):ZA Ze w w4).range trivial hlb3 HRZ.out;have x0:=hr4 0 _ rfl;have x1:=hr4 1 _ rfl;have x2:=hr4 2 _ rfl;have x3:=hr4 3 _ rfl;have x4:=hr4 4 _ rfl;have x5:=hr4 5 _ rfl;have x6:=hr4 6 _ rfl;have x7:=hr4 7 _ rfl;simp only [Nat.zero_mul,Nat.add_zero] at x0 x1 x2 x3 x4 x5 x6 x7;clear hown4 hgrow4 hb4 hbx4 hr4 hb34;cases h8:(z.kind==8)
    · have HL:=hI (show Qp s=[⟨#[]⟩,lt] by rw [HAL.out,if_pos True.intro,if_neg (by simpa using h8)])
      go_wp2_with fail
      go_ret;exact zd.of HL.out HB1.out HB4.out HOWN4.out (by intro s hs;simp at hs;rcases hs with rfl|rfl;exact Nat.zero_le _;exact HLM.out)
    · have HL:=hI (show Qp s=[⟨#[]⟩,lt,ct] by rw [HAL.out,if_pos True.intro,if_pos (by simpa using h8)]);have HC2:=hI (HCOL.out True.intro (by simpa using h8))
      go_wp2_with (first
        | (go_at_call 107;(with_reducible refine (HC2.out _ (thru HB4.out HB1.out)).mono ?_);rintro e w5 ⟨rfl,hb5⟩;have HB5:=hI hb5;have HOWN5:=hI (HOWN4.out.kept (row:=none) ⟨hb5.os,hb5.tape,hb5.output,hb5.size,fun q hq _=>hb5.block q hq⟩ (by cases hq:v4.ownBlock;exact .inl rfl;exact .inr (by simp)));clear hb5)
        | (at_builtin;refine wpList_append_own _ rfl _ _ 72 rfl w1.heap.size 9 i0 (.string ⟨#[]⟩) 1 16 Tryz.underlying72 hi hz0 hz1 hz2 rfl (by decide) _ _ _ rfl (HOWN5.out.alloc _) ⟨w5.heap.size,0,none⟩ 1 1 [.string ct] rfl rfl ?e1 ?e2 ?e3 ?e4 ?e5 ?_))
      case e1=>exact World.news_of_block (heap_alloc_new _ _)
      case e2=>intro u hu;simp at hu;subst hu;rfl
      case e3=>unfold maxLen;omega
      case e4=>omega
      case e5=>have h9:=HB5.out.size;have h8:=HB4.out.size;simp;omega
      intro v6 w6 hown6 hgrow6 _;have hb45:Below w1.heap.size w1 w5:=thru HB5.out HB4.out;have hb6:Below w1.heap.size w1 w6:=Below.grown (Zj hb45 _) hgrow6 (by have:=hb45.size;simp;omega) (fun q hq=>(HOWN5.out.lt q hq).1)
      have hsl6:∃ ao n' cap,v6=Value.slice ao n' cap:=by
        rcases hown6.2 with ⟨hv,_⟩|⟨g,cap,cur,hv,_⟩
        · exact ⟨_,_,_,hv⟩
        · exact ⟨_,_,_,hv⟩
      have HOWN6:=hI hown6;have HB6:=hI hb6;clear hown6 hgrow6 hb6 hb45
      go_wp2_with fail
      go_ret;exact zd.of HL.out HB1.out HB6.out HOWN6.out (by intro s hs;simp at hs;rcases hs with rfl|rfl|rfl;exact Nat.zero_le _;exact HLM.out;exact HCS.out)
end Go.Proofs.YtdmdhopfgnlnoaaGreatDoor
