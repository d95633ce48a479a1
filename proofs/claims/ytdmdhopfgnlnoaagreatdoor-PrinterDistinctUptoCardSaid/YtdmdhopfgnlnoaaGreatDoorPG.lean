/- The writer's functions. -/
import Derived.Test.YtdmdhopfgnlnoaaGreatDoorPF
import Derived.Test.YtdmdhopfgnlnoaaGreatDoorI1
namespace Go.Proofs.YtdmdhopfgnlnoaaGreatDoor
open Go.RowKit
set_option linter.unusedVariables false
set_option linter.unusedSimpArgs false
theorem qE {P:Program} (w:World) {ops:Array Oper} {rest:List Oper} {o:Oper} {a:Act} {Q:Exit→Act→World→Prop}
    (hgd:o.guard=none) (s x:Operand) (t:TypeId) (hop:o.op=.call { callee:=.builtin .append,args:=#[s,x],argTypes:=#[t,t] })
    (e:TypeId) (i:TypeInfo) (z:Value) (size bytes:Nat) (ht:P.underlying t=some (.slice e)) (hi:P.info? e=some i) (hz:i.zero=some z)
    (hsize:i.size=size) (hby:i.bytes=bytes) (hzs:z.cells.size=size) (hsz:0<size) (hs:a.eval s=.slice none 0 0)
    (xa:Option Addr) (m c:Nat) (news:List Value) (hx:a.eval x=.slice xa m c) (hnone:xa=none→m=0) (hl:news.length=m*size)
    (hnews:∀ ad,xa=some ad→∀ j u,news[j]?=some u→w.cell? (ad.add j)=some u) (h1:∀ u ∈ news,u.oneCell'=true) (h63:m≤maxLen) (hbytes:m*bytes≤140737488355328)
    (h:∀ v' w',w'.ownsRow w.heap.size e size v' m news→w.grownBy w' none→wpList P ops Q rest (a.put o.dst v') w'):wpList P ops Q (o::rest) a w:=by
  cases xa with
  | none =>
    have hm:=hnone rfl;subst hm;have hn:news=[]:=List.eq_nil_of_length_eq_zero (by simpa using hl);subst hn;refine wpList_plain hgd fun K hK=>?_
    have hrun:(Builtin.append_ #[t,t] o.type #[.slice none 0 0,.slice none 0 c]).run P w=.ok (.slice none 0 0) w:=by
      simp [Builtin.append_,run_underlying ht,sizeOf,typeInfo,hi,Builtin.lenOf,Builtin.firstCells,loadCells,loadCellsFrom]
    unfold Oper.wp;simp [execOp,hop,resolve,invoke,builtin,hs,hx,hrun,Result.andThen];exact hK _ _ (h _ w (World.ownsRow_nil _ _ _ _) (World.grownBy.refl _ _))
  | some ad =>
    refine wpList_append_own w hgd s x t hop w.heap.size e i z size bytes ht hi hz hsize hby hzs hsz (.slice none 0 0) 0 [] hs (World.ownsRow_nil _ _ _ _) ad m c news hx hl (hnews ad rfl) h1 (by omega) (by rw [Nat.zero_add];exact hbytes) (Nat.le_refl _) ?_;intro v' w' r1 r2 _;rw [Nat.zero_add,List.nil_append] at r1;exact h v' w' r1 r2
theorem infoStr:(Tryz.prog.info? 9).map (fun i=>(i.zero,i.size,i.bytes))=some (some (.string ⟨#[]⟩),1,16):=by kernel_rfl
theorem indT_rep (n:Nat):Lib.repeatL [32,32] n=QH n:=by
  induction n with
  | zero=>rfl
  | succ n ih=>unfold QH at ih ⊢;rw [List.replicate_succ,List.flatten_cons,←ih];rfl
theorem JJ (n:Nat) (w:World) (hn:n≤8388608):Calls Tryz.prog 30 #[.string ⟨#[32,32]⟩,.int .i64 n] w fun e w'=>e=.returned (.string ⟨(QH n).toArray⟩)∧Below w.heap.size w w':=by
  have h:=Tryz.strings_Repeat ⟨#[32,32]⟩ n w (by omega) (by show 2*n≤_;omega);rw [show Lib.repeatL (⟨#[32,32]⟩:ByteArray).data.toList n=QH n from indT_rep n] at h;exact h
theorem Ql (n:Nat):(QH n).length=2*n:=by
  induction n with
  | zero=>rfl
  | succ n ih=>unfold QH at ih ⊢;rw [List.replicate_succ,List.flatten_cons,List.length_append,ih];simp;omega
theorem Qo (l:List ByteArray):(Zh (l.map Zg)).length≤2*zP l:=by
  have ht:∀ r:List ByteArray,(Lib.joinTail [44,32] (r.map Zg)).length≤2*zP r:=by
    intro r
    induction r with
    | nil=>simp [Lib.joinTail]
    | cons a r ih =>
      have e:(Zg a).length=a.size:=rfl;simp only [Lib.joinTail,zP,List.map_cons,List.flatten_cons,List.length_append,List.sum_cons,List.length_cons,List.length_nil] at ih ⊢;omega
  cases l with
  | nil=>simp [Zh,Lib.join_nil]
  | cons a r =>
    have e:(Zg a).length=a.size:=rfl;have h:=ht r;unfold Zh;rw [List.map_cons,Lib.join_cons,List.length_append];simp only [zP,List.map_cons,List.sum_cons] at h ⊢;omega
theorem psW_len (l:List ByteArray):l.length≤zP l:=by
  induction l with
  | nil=>exact Nat.zero_le _
  | cons a r ih=>simp only [zP,List.map_cons,List.sum_cons,List.length_cons] at ih ⊢;omega
theorem vp:∀ (l:List ByteArray) (n:Nat),zP (l.drop n)≤zP l
  | [],n=>by simp
  | a::r,0=>by simp
  | a::r,n+1=>by
    have:=vp r n;simp only [List.drop_succ_cons];simp only [zP,List.map_cons,List.sum_cons] at this ⊢;omega
def zo:ByteArray:=⟨#[46,46,46]⟩
theorem Ye (l:List ByteArray) (x:ByteArray):zP (l++[x])=zP l+(1+x.size):=by unfold zP;simp
theorem Ym {w:World} {base:Nat} {v:Value} {l:List ByteArray} (hown:w.ownsRow base 9 1 v l.length (l.map Value.string)) (hl:zP l≤67108864) :
    Calls Tryz.prog 77 #[v,.string ⟨#[44,32]⟩] w fun e w'=>e=.returned (.string ⟨(Zh (l.map Zg)).toArray⟩)∧Below w.heap.size w w':=by
  have h1:=psW_len l;have h2:=Qo l;rcases hown.2 with ⟨rfl,h0⟩|⟨g,cap,cur,rfl,_,hg,hc,_,_,htk⟩
  · have hl0:l=[]:=List.length_eq_zero_iff.1 h0;subst hl0;refine (Tryz.strings_Join_none none 0 ⟨#[44,32]⟩ w).mono ?_;rintro e w' ⟨rfl,rfl⟩;exact ⟨rfl,Below.refl _ _⟩
  · refine Tryz.strings_Join g 0 cap l ⟨#[44,32]⟩ w (fun j x hj=>?_) (Zc hg) (by omega) hc (by show (Zh (l.map Zg)).length≤_;omega);rw [Za hg,Nat.zero_add];have h3:(cur.toList.take (l.length*1))[j]?=some (.string x):=by rw [htk,List.getElem?_map,hj];rfl
    rw [List.getElem?_take] at h3;split at h3
    · simpa using h3
    · cases h3
theorem yPGa {P:Prop} (h:P:=by
  go_end0;refine ⟨rfl,?_,HG7.out⟩;have h9:=HW7.out;rw [HJB.out,HIB.out] at h9;rw [HTX.out];simpa [Zg,endT] using h9):P:=h
set_option maxRecDepth 100000 in
set_option maxHeartbeats 8000000 in
theorem Vd {w0:World} {p m k:Nat} {T:Bs} (f:Fn) (df:FA) (skip:Nat) (w:World) (hsk:skip≤f.params.length) (hk:k≤4194304) (hps:zP f.params≤4194304) (hB:BlOk w0 p m (k+1) f.body) (hat:f.At (Qx w0.heap.size) w df) (h:Wr w0 p m T w) :
    Calls Tryz.prog 41 #[.pointer (some ⟨p,0,none⟩),(fV f df),.int .i64 skip,.int .i64 k] w (Zw w0 p m T (QT k f skip (Qe (k+1) f.body)) w):=by
  delta fV
  obtain ⟨i0,hi,hz0,hz1,hz2⟩:=info_parts infoStr;obtain ⟨-,⟨hp1,⟨hp2,hp3⟩,hb1,hb2,hb3⟩,hrow,hats⟩:=Fn.at_iff.1 hat;have HB:=hI hB;have HROW:=hI hrow;have HATS:=hI (St.ats_iff.2 hats);have HW:=hI h;have hpl:=h.lt;have hlen:=psW_len f.params;have hsk1:(skip:Int)≤(f.params.length:Int):=by omega
  have hcc:f.params.length≤df.c∧df.c≤9223372036854775807:=⟨hp1,by unfold MX at hp2;omega⟩
  have hcc2:f.body.length≤df.bc∧df.bc≤9223372036854775807:=⟨hb1,by unfold MX at hb2;omega⟩
  obtain ⟨ps,hpse⟩:∃ l,l=f.params.drop skip:=⟨_,rfl⟩
  have hpsl:ps.length=f.params.length - skip:=by rw [hpse,List.length_drop]
  have hpsw:zP ps≤4194304:=Nat.le_trans (by rw [hpse];exact vp _ _) hps;have hpl4:=psW_len ps;have hd3:zo.size=3:=rfl;have HPS:=hI hpse;have HPL:=hI hpsl;have HB4:=hI (And.intro hb1 (And.intro hb2 hb3));obtain ⟨w1,hw1⟩:=bxF f df w;have hb1:Below w.heap.size w w1:=by rw [hw1];exact bw
  have j1:=nwF f df hw1;have HB1:=hI hb1;have J1:=hI j1;have kb0:=fun i=>Za j1 i;have kbz0:=Zc j1;clear hB hrow hats h hpse hpsl hb1 hb2 hb3 hp1 hp2 hp3 hat
  go_enter Tryz.func41,Tryz.ntmps41
  go_upto_region 1 with fail
  rw [←hw1];clear hw1 j1
  go_wp2_with (at_builtin;refine qE _ rfl _ _ 72 rfl 9 i0 (.string ⟨#[]⟩) 1 16 Tryz.underlying72 hi hz0 hz1 hz2 rfl (by decide) rfl _ _ _ (ps.map Value.string) rfl ?c0 ?c1 ?c2 ?c3 ?c4 ?c5 ?_)
  case c0.inl=>intro hn;obtain ⟨b,off,h1,h2⟩:=HROW.out;by_cases hq:f.params=[];simp [hq];exact absurd ((h1 hq).1) (by rw [hn];simp)
  case c0.inr=>intro hn;obtain ⟨b,off,h1,h2⟩:=HROW.out;by_cases hq:f.params=[];simp [hq];exact absurd ((h1 hq).1) (by rw [hn];simp)
  case c1=>simp;exact HPL.out
  case c3=>intro u hu;obtain ⟨x,_,rfl⟩:=List.mem_map.1 hu;rfl
  case c4=>unfold maxLen;omega
  case c5=>omega
  case c2.inl=>intro ad had j a hj;have h9:=(List.getElem?_eq_some_iff.1 hj).1;have:=HPL.out;omega
  case c2.inr =>
    intro ad had j a hj;obtain ⟨b,off,h1,h2⟩:=HROW.out;rw [HPS.out,List.getElem?_drop] at hj;obtain ⟨h3,h4,h5⟩:=h1 (by intro h9;rw [h9] at hj;simp at hj);obtain ⟨cs,hr,rfl,-⟩:=h2 _ _ hj;rw [h3] at had;cases had;have h6:=((Zb HB1.out:ZA Ze w w1).range trivial h5 hr) 0 _ rfl
    have e9:((⟨b,off,none⟩:Addr).add skip).add j=⟨b,off+(skip+j)*1,none⟩:=by
      simp only [Addr.add,Nat.mul_one];split <;> split <;> simp_all <;> omega
    rw [e9];exact h6
  all_goals
    intro v' w2 hown2 hgrow2;have hb2:Below w1.heap.size w1 w2:=⟨hgrow2.os,hgrow2.tape,hgrow2.output,hgrow2.size,fun q hq=>hgrow2.block q hq (by simp)⟩
    rw [←HPL.out] at hown2
    have hsl2:∃ ao n' cap,v'=Value.slice ao n' cap:=by
      rcases hown2.2 with ⟨hv,_⟩|⟨g,cap,cur,hv,_⟩
      · exact ⟨_,_,_,hv⟩
      · exact ⟨_,_,_,hv⟩
    have HOWN2:=hI hown2;have HB2:=hI hb2;have j2:=Zd hb2 J1.out;have J2:=hI j2;have kb2:=fun i=>Za j2 i;have kbz2:=Zc j2;clear hown2 hgrow2 hb2 j2 kb0 kbz0;cases hva:f.vararg
    · have HJN:=hI (show ∀ w',Below w2.heap.size w2 w'→Calls Tryz.prog 77 #[v',.string ⟨#[44,32]⟩] w' fun e w''=>e=.returned (.string ⟨(Zh (ps.map Zg)).toArray⟩)∧Below w'.heap.size w' w'' from fun w' hb=>Ym (HOWN2.out.kept (row:=none) ⟨hb.os,hb.tape,hb.output,hb.size,fun q hq _=>hb.block q hq⟩ (by cases hq:v'.ownBlock;exact .inl rfl;exact .inr (by simp))) (by omega));have hjl:(⟨(Zh (ps.map Zg)).toArray⟩:ByteArray).size≤70368744177664:=by have:=Qo ps;show (Zh (ps.map Zg)).toArray.size≤_;simp;omega
      have HTX:Hid (QT k f skip (Qe (k+1) f.body)=40::Zh (ps.map Zg)++[41,10]++Qe (k+1) f.body++QH k++endT):=hI (by unfold QT;rw [hva,HPS.out];simp);obtain ⟨jn,hjn⟩:∃ q:ByteArray,q=⟨(Zh (ps.map Zg)).toArray⟩:=⟨_,rfl⟩
      rw [←hjn] at HJN hjl;have HJB:=hI (show Zg jn=Zh (ps.map Zg) by rw [hjn];simp [Zg]);clear hjn;obtain ⟨ij,hij⟩:∃ q:ByteArray,q=⟨(QH k).toArray⟩:=⟨_,rfl⟩
      have HIN:=hI (show ∀ w',Calls Tryz.prog 30 #[.string ⟨#[32,32]⟩,.int .i64 k] w' fun e w''=>e=.returned (.string ij)∧Below w'.heap.size w' w'' from fun w'=>by rw [hij];exact JJ k w' (by omega));have hil:ij.size≤70368744177664:=by rw [hij];have:=Ql k;show (QH k).toArray.size≤_;simp;omega
      have HIB:=hI (show Zg ij=QH k by rw [hij];simp [Zg])
      have HBK:=hI (show ∀ T' w',Gp w0.heap.size p w w'→Wr w0 p m T' w'→Calls Tryz.prog 16 #[.pointer (some ⟨p,0,none⟩),.slice df.ba f.body.length df.bc,.int .i64 ((k:Int)+1)] w' (Zw w0 p m T' (Qe (k+1) f.body) w') from fun T' w' hg hw=>by
        rw [show ((k:Int)+1)=((k+1:Nat):Int) from by simp];exact HB.out df.ba df.bc T' w' HB4.out.1 HB4.out.2.1 HB4.out.2.2 (HATS.out.keep (hg.keep hpl.1) (fun _ h=>h)) hw)
      clear hij
      go_wp2_with (first
        | (go_at_call 77;(with_reducible refine (HJN.out _ bw).mono ?_);rintro e w3 ⟨rfl,hb3⟩;have HB3:=hI (thru hb3 (thru HB2.out HB1.out)))
        | (go_at_call 29;(with_reducible refine ((HW.out.below HB3.out).put3 ⟨#[40]⟩ jn ⟨#[41,10]⟩ (by simp) (by decide) hjl (by decide)).mono ?_);rintro e w4 ⟨rfl,hw4,hg4⟩;have HW4:=hI hw4;have HG4:=hI (hg4.thru (Gp.of_below HB3.out));have j4:=hg4.box (Zd hb3 J2.out) (by omega) (by decide);have kb4:=fun i=>Za j4 i;have kbz4:=Zc j4;clear hw4 hg4 j4)
        | (go_at_call 16;(with_reducible refine (HBK.out _ _ HG4.out HW4.out).mono ?_);rintro e w5 ⟨rfl,hw5,hg5⟩;have HW5:=hI hw5;have HG5:=hI (hg5.thru HG4.out);clear hw5 hg5)
        | (go_at_call 30;(with_reducible refine (HIN.out _).mono ?_);rintro e w6 ⟨rfl,hb6⟩;have HB6:=hI hb6)
        | (go_at_call 29;(with_reducible refine ((HW5.out.below HB6.out).put2 ij ⟨#[101,110,100]⟩ (by simp) hil (by decide)).mono ?_);rintro e w7 ⟨rfl,hw7,hg7⟩;have HW7:=hI hw7;have HG7:=hI ((hg7.thru (Gp.of_below HB6.out)).thru HG5.out);clear hw7 hg7))
      exact yPGa
    · go_wp2_with (at_builtin;refine wpList_append_own _ rfl _ _ 72 rfl w1.heap.size 9 i0 (.string ⟨#[]⟩) 1 16 Tryz.underlying72 hi hz0 hz1 hz2 rfl (by decide) _ _ _ rfl (HOWN2.out.alloc _) ⟨w2.heap.size,0,none⟩ 1 1 [.string ⟨#[46,46,46]⟩] rfl rfl ?d1 ?d2 ?d3 ?d4 ?d5 ?_)
      case d1=>exact World.news_of_block (heap_alloc_new _ _)
      case d2=>intro u hu;simp at hu;subst hu;rfl
      case d3=>unfold maxLen;omega
      case d4=>omega
      case d5=>have:=HB2.out.size;simp;omega
      intro v2 w9 hown9 hgrow9 _;have hb9:Below w1.heap.size w1 w9:=Below.grown (Zj HB2.out _) hgrow9 (by have:=HB2.out.size;simp;omega) (fun q hq=>(HOWN2.out.lt q hq).1);have hown3:w9.ownsRow w1.heap.size 9 1 v2 (ps++[zo]).length ((ps++[zo]).map Value.string):=by rw [List.length_append,List.map_append];exact hown9
      have hsl3:∃ ao n' cap,v2=Value.slice ao n' cap:=by
        rcases hown3.2 with ⟨hv,_⟩|⟨g,cap,cur,hv,_⟩
        · exact ⟨_,_,_,hv⟩
        · exact ⟨_,_,_,hv⟩
      have HOWN3:=hI hown3;have HB9:=hI hb9;have j9:=Zd hb9 J1.out;have kb9:=fun i=>Za j9 i;have kbz9:=Zc j9;clear hown9 hgrow9 hb9 hown3 j9 kb2 kbz2;have HJN:=hI (show ∀ w',Below w9.heap.size w9 w'→Calls Tryz.prog 77 #[v2,.string ⟨#[44,32]⟩] w' fun e w''=>e=.returned (.string ⟨(Zh ((ps++[zo]).map Zg)).toArray⟩)∧Below w'.heap.size w' w'' from fun w' hb=>Ym (HOWN3.out.kept (row:=none) ⟨hb.os,hb.tape,hb.output,hb.size,fun q hq _=>hb.block q hq⟩ (by cases hq:v2.ownBlock;exact .inl rfl;exact .inr (by simp))) (by rw [Ye];omega));have hjl:(⟨(Zh ((ps++[zo]).map Zg)).toArray⟩:ByteArray).size≤70368744177664:=by have:=Qo (ps++[zo]);rw [Ye] at this;show (Zh ((ps++[zo]).map Zg)).toArray.size≤_;rw [List.size_toArray];omega
      have HTX:Hid (QT k f skip (Qe (k+1) f.body)=40::Zh ((ps++[zo]).map Zg)++[41,10]++Qe (k+1) f.body++QH k++endT):=hI (by unfold QT;rw [hva,HPS.out,List.map_append];simp [Zg,zo]);obtain ⟨jn,hjn⟩:∃ q:ByteArray,q=⟨(Zh ((ps++[zo]).map Zg)).toArray⟩:=⟨_,rfl⟩
      rw [←hjn] at HJN hjl;have HJB:=hI (show Zg jn=Zh ((ps++[zo]).map Zg) by rw [hjn];simp [Zg]);clear hjn;obtain ⟨ij,hij⟩:∃ q:ByteArray,q=⟨(QH k).toArray⟩:=⟨_,rfl⟩
      have HIN:=hI (show ∀ w',Calls Tryz.prog 30 #[.string ⟨#[32,32]⟩,.int .i64 k] w' fun e w''=>e=.returned (.string ij)∧Below w'.heap.size w' w'' from fun w'=>by rw [hij];exact JJ k w' (by omega));have hil:ij.size≤70368744177664:=by rw [hij];have:=Ql k;show (QH k).toArray.size≤_;simp;omega
      have HIB:=hI (show Zg ij=QH k by rw [hij];simp [Zg])
      have HBK:=hI (show ∀ T' w',Gp w0.heap.size p w w'→Wr w0 p m T' w'→Calls Tryz.prog 16 #[.pointer (some ⟨p,0,none⟩),.slice df.ba f.body.length df.bc,.int .i64 ((k:Int)+1)] w' (Zw w0 p m T' (Qe (k+1) f.body) w') from fun T' w' hg hw=>by
        rw [show ((k:Int)+1)=((k+1:Nat):Int) from by simp];exact HB.out df.ba df.bc T' w' HB4.out.1 HB4.out.2.1 HB4.out.2.2 (HATS.out.keep (hg.keep hpl.1) (fun _ h=>h)) hw)
      clear hij
      go_wp2_with (first
        | (go_at_call 77;(with_reducible refine (HJN.out _ bw).mono ?_);rintro e w3 ⟨rfl,hb3⟩;have HB3:=hI (thru hb3 (thru HB9.out HB1.out)))
        | (go_at_call 29;(with_reducible refine ((HW.out.below HB3.out).put3 ⟨#[40]⟩ jn ⟨#[41,10]⟩ (by simp) (by decide) hjl (by decide)).mono ?_);rintro e w4 ⟨rfl,hw4,hg4⟩;have HW4:=hI hw4;have HG4:=hI (hg4.thru (Gp.of_below HB3.out));have j4:=hg4.box (Zd hb3 (Zd HB9.out J1.out)) (by omega) (by decide);have kb4:=fun i=>Za j4 i;have kbz4:=Zc j4;clear hw4 hg4 j4)
        | (go_at_call 16;(with_reducible refine (HBK.out _ _ HG4.out HW4.out).mono ?_);rintro e w5 ⟨rfl,hw5,hg5⟩;have HW5:=hI hw5;have HG5:=hI (hg5.thru HG4.out);clear hw5 hg5)
        | (go_at_call 30;(with_reducible refine (HIN.out _).mono ?_);rintro e w6 ⟨rfl,hb6⟩;have HB6:=hI hb6)
        | (go_at_call 29;(with_reducible refine ((HW5.out.below HB6.out).put2 ij ⟨#[101,110,100]⟩ (by simp) hil (by decide)).mono ?_);rintro e w7 ⟨rfl,hw7,hg7⟩;have HW7:=hI hw7;have HG7:=hI ((hg7.thru (Gp.of_below HB6.out)).thru HG5.out);clear hw7 hg7))
      exact yPGa
set_option maxHeartbeats 4000000
set_option maxRecDepth 100000
theorem ZR {x:Ex} {p:Int} {t:Ttl} (h:ZH t p x=0):x.str.size≤4096:=by
  obtain ⟨h1,-⟩:=ql.1 (Qm.1 h).1;split at h1 <;> omega
theorem vA {x:Ex} {p:Int} {t:Ttl} (h:ZH t p x=0) (hk:x.kind=4):qU x.p x.q=true:=by
  have h1:=ZB h;unfold Zn at h1;simp [hk] at h1;exact h1.2
theorem Kb (s:ByteArray):(Vv s).length≤4*s.size+2:=by
  unfold Vv;have h:=zm (Zg s);have e:(Zg s).length=s.size:=rfl;simp only [List.length_append,List.length_cons,List.length_nil];omega
theorem numT_len {p q:Int} (h:qU p q=true):(qG p q).length≤100:=by
  obtain ⟨h1,h2,h3,h4,-,h5⟩:=of_decide_eq_true h
  have hd:Qg q≤9:=by
    unfold Qg;cases hf:(List.range 10).find? (fun d=>decide (((10 ^ d:Nat):Int) % q=0)) with
    | none=>exact Nat.le_refl _
    | some d=>have:=List.mem_of_find?_eq_some hf;simp at this;simp;omega
  rw [vr rfl];have hp9:(10:Nat) ^ Qg q≤10 ^ 9:=Nat.pow_le_pow_right (by omega) hd;have h8:(10:Nat) ^ 9=1000000000:=rfl;obtain ⟨sc,hsc⟩:∃ x:Int,x=((10 ^ Qg q:Nat):Int):=⟨_,rfl⟩
  have hs1:0≤sc:=by rw [hsc];exact Int.natCast_nonneg _
  have hs2:sc≤1000000000:=by rw [hsc];rw [h8] at hp9;exact Int.ofNat_le.2 hp9
  rw [←hsc];have hqd:0≤sc / q∧sc / q≤1000000000:=⟨Int.ediv_nonneg (by omega) (by omega),Int.le_trans (Int.ediv_le_self _ (by omega)) (by omega)⟩
  obtain ⟨qd,hqd0⟩:∃ x,x=sc / q:=⟨_,rfl⟩
  rw [←hqd0] at hqd ⊢;have hpr:0≤p*qd∧p*qd≤2147483647*1000000000:=⟨Int.mul_nonneg h3 (by omega),Int.mul_le_mul h4 (by omega) (by omega) (by omega)⟩
  have hl:=zR (n:=p*qd) (by unfold QO;omega)
  have hl2:(Lib.itoa (p*qd)).length≤21:=by
    have e:(VK (p*qd)).size=(Lib.itoa (p*qd)).length:=by unfold VK;exact List.size_toArray
    omega
  split
  · omega
  · have hpad:(VA (Qg q+1) (Lib.itoa (p*qd))).length≤40:=by unfold VA;simp;omega
    simp only [List.length_append,List.length_cons,List.length_take,List.length_drop];omega
theorem JP (l:Bs):Zg ⟨l.toArray⟩=l:=by simp [Zg]
structure zI (w0:World) (p m k:Nat) (x:Ex):Prop where
  args:∀ y ∈ x.args,YH w0 p m k y
  funcs:∀ f ∈ x.funcs,BlOk w0 p m (k+1) f.body∧zP f.params≤4194304
  k:k≤4194304
theorem expr_1 {w0:World} {p m k:Nat} {T:Bs} (x:Ex) (d:EA) (t:Ttl) (pk:Int) (w:World) (hk:x.kind=1) (he:ZH t pk x=0) (ht:zI w0 p m k x) (hat:x.At (Qx w0.heap.size) w d) (h:Wr w0 p m T w) :
    Calls Tryz.prog 24 #[.pointer (some ⟨p,0,none⟩),(eV x d),.int .i64 k] w (Zw w0 p m T (Zr k x) w):=by
  delta eV
  have hw64:=(Ex.at_iff.1 hat).1;have hss:=ZR he;have hpl:=h.lt;have HW:=hI h;have HA:=hI hat;have HT:=hI ht;have HE:=hI he;have HX:=hI (show Zr k x=Zg ⟨#[110,105,108]⟩ by rw [ZW];unfold Qj;simp only [hk];rfl);have k1:=kT 1 hk;obtain ⟨w1,hw1⟩:=vG x d w;have hb1:Below w.heap.size w w1:=by rw [hw1];exact bw
  have j1:=vU x d hw1;have HB1:=hI hb1;have J1:=hI j1;have kb0:=fun i=>Za j1 i;have kbz0:=Zc j1;clear hk he ht hat h hb1
  go_enter Tryz.func24,Tryz.ntmps24
  go_upto_region 1 with fail
  rw [←hw1];clear hw1 j1
  go_wp2_with (go_at_call 29;(with_reducible refine ((HW.out.below HB1.out).put1 ⟨#[110,105,108]⟩ (by simp) (by first|decide|omega)).mono ?_);rintro e w2 ⟨rfl,hw9,hg9⟩;have HW_w2:=hI hw9;have HG_w2:=hI (hg9.thru (Gp.of_below HB1.out));clear hw9 hg9)
  go_end0;refine ⟨rfl,?_,HG_w2.out⟩;have h9:=HW_w2.out;rw [HX.out];exact h9
theorem expr_2 {w0:World} {p m k:Nat} {T:Bs} (x:Ex) (d:EA) (t:Ttl) (pk:Int) (w:World) (hk:x.kind=2) (he:ZH t pk x=0) (ht:zI w0 p m k x) (hat:x.At (Qx w0.heap.size) w d) (h:Wr w0 p m T w) :
    Calls Tryz.prog 24 #[.pointer (some ⟨p,0,none⟩),(eV x d),.int .i64 k] w (Zw w0 p m T (Zr k x) w):=by
  delta eV
  have hw64:=(Ex.at_iff.1 hat).1;have hss:=ZR he;have hpl:=h.lt;have HW:=hI h;have HA:=hI hat;have HT:=hI ht;have HE:=hI he;have HX:=hI (show Zr k x=Zg ⟨#[116,114,117,101]⟩ by rw [ZW];unfold Qj;simp only [hk];rfl);have k1:=kF 1 hk;have k2:=kT 2 hk;obtain ⟨w1,hw1⟩:=vG x d w;have hb1:Below w.heap.size w w1:=by rw [hw1];exact bw
  have j1:=vU x d hw1;have HB1:=hI hb1;have J1:=hI j1;have kb0:=fun i=>Za j1 i;have kbz0:=Zc j1;clear hk he ht hat h hb1
  go_enter Tryz.func24,Tryz.ntmps24
  go_upto_region 1 with fail
  rw [←hw1];clear hw1 j1
  go_wp2_with (go_at_call 29;(with_reducible refine ((HW.out.below HB1.out).put1 ⟨#[116,114,117,101]⟩ (by simp) (by first|decide|omega)).mono ?_);rintro e w2 ⟨rfl,hw9,hg9⟩;have HW_w2:=hI hw9;have HG_w2:=hI (hg9.thru (Gp.of_below HB1.out));clear hw9 hg9)
  go_end0;refine ⟨rfl,?_,HG_w2.out⟩;have h9:=HW_w2.out;rw [HX.out];exact h9
theorem expr_3 {w0:World} {p m k:Nat} {T:Bs} (x:Ex) (d:EA) (t:Ttl) (pk:Int) (w:World) (hk:x.kind=3) (he:ZH t pk x=0) (ht:zI w0 p m k x) (hat:x.At (Qx w0.heap.size) w d) (h:Wr w0 p m T w) :
    Calls Tryz.prog 24 #[.pointer (some ⟨p,0,none⟩),(eV x d),.int .i64 k] w (Zw w0 p m T (Zr k x) w):=by
  delta eV
  have hw64:=(Ex.at_iff.1 hat).1;have hss:=ZR he;have hpl:=h.lt;have HW:=hI h;have HA:=hI hat;have HT:=hI ht;have HE:=hI he;have HX:=hI (show Zr k x=Zg ⟨#[102,97,108,115,101]⟩ by rw [ZW];unfold Qj;simp only [hk];rfl);have k1:=kA hk;obtain ⟨w1,hw1⟩:=vG x d w;have hb1:Below w.heap.size w w1:=by rw [hw1];exact bw
  have j1:=vU x d hw1;have HB1:=hI hb1;have J1:=hI j1;have kb0:=fun i=>Za j1 i;have kbz0:=Zc j1;clear hk he ht hat h hb1
  go_enter Tryz.func24,Tryz.ntmps24
  go_upto_region 1 with fail
  rw [←hw1];clear hw1 j1
  go_wp2_with (go_at_call 29;(with_reducible refine ((HW.out.below HB1.out).put1 ⟨#[102,97,108,115,101]⟩ (by simp) (by first|decide|omega)).mono ?_);rintro e w2 ⟨rfl,hw9,hg9⟩;have HW_w2:=hI hw9;have HG_w2:=hI (hg9.thru (Gp.of_below HB1.out));clear hw9 hg9)
  go_end0;refine ⟨rfl,?_,HG_w2.out⟩;have h9:=HW_w2.out;rw [HX.out];exact h9
theorem expr_6 {w0:World} {p m k:Nat} {T:Bs} (x:Ex) (d:EA) (t:Ttl) (pk:Int) (w:World) (hk:x.kind=6) (he:ZH t pk x=0) (ht:zI w0 p m k x) (hat:x.At (Qx w0.heap.size) w d) (h:Wr w0 p m T w) :
    Calls Tryz.prog 24 #[.pointer (some ⟨p,0,none⟩),(eV x d),.int .i64 k] w (Zw w0 p m T (Zr k x) w):=by
  delta eV
  have hw64:=(Ex.at_iff.1 hat).1;have hss:=ZR he;have hpl:=h.lt;have HW:=hI h;have HA:=hI hat;have HT:=hI ht;have HE:=hI he;have HX:=hI (show Zr k x=Zg ⟨#[46,46,46]⟩ by rw [ZW];unfold Qj;simp only [hk];rfl);have k1:=kA hk;obtain ⟨w1,hw1⟩:=vG x d w;have hb1:Below w.heap.size w w1:=by rw [hw1];exact bw
  have j1:=vU x d hw1;have HB1:=hI hb1;have J1:=hI j1;have kb0:=fun i=>Za j1 i;have kbz0:=Zc j1;clear hk he ht hat h hb1
  go_enter Tryz.func24,Tryz.ntmps24
  go_upto_region 1 with fail
  rw [←hw1];clear hw1 j1
  go_wp2_with (go_at_call 29;(with_reducible refine ((HW.out.below HB1.out).put1 ⟨#[46,46,46]⟩ (by simp) (by first|decide|omega)).mono ?_);rintro e w2 ⟨rfl,hw9,hg9⟩;have HW_w2:=hI hw9;have HG_w2:=hI (hg9.thru (Gp.of_below HB1.out));clear hw9 hg9)
  go_end0;refine ⟨rfl,?_,HG_w2.out⟩;have h9:=HW_w2.out;rw [HX.out];exact h9
theorem expr_7 {w0:World} {p m k:Nat} {T:Bs} (x:Ex) (d:EA) (t:Ttl) (pk:Int) (w:World) (hk:x.kind=7) (he:ZH t pk x=0) (ht:zI w0 p m k x) (hat:x.At (Qx w0.heap.size) w d) (h:Wr w0 p m T w) :
    Calls Tryz.prog 24 #[.pointer (some ⟨p,0,none⟩),(eV x d),.int .i64 k] w (Zw w0 p m T (Zr k x) w):=by
  delta eV
  have hw64:=(Ex.at_iff.1 hat).1;have hss:=ZR he;have hpl:=h.lt;have HW:=hI h;have HA:=hI hat;have HT:=hI ht;have HE:=hI he;have HX:=hI (show Zr k x=Zg x.str by rw [ZW];unfold Qj;simp only [hk];rfl);have k1:=kA hk;obtain ⟨w1,hw1⟩:=vG x d w;have hb1:Below w.heap.size w w1:=by rw [hw1];exact bw
  have j1:=vU x d hw1;have HB1:=hI hb1;have J1:=hI j1;have kb0:=fun i=>Za j1 i;have kbz0:=Zc j1;clear hk he ht hat h hb1
  go_enter Tryz.func24,Tryz.ntmps24
  go_upto_region 1 with fail
  rw [←hw1];clear hw1 j1
  go_wp2_with (go_at_call 29;(with_reducible refine ((HW.out.below HB1.out).put1 x.str (by simp) (by first|decide|omega)).mono ?_);rintro e w2 ⟨rfl,hw9,hg9⟩;have HW_w2:=hI hw9;have HG_w2:=hI (hg9.thru (Gp.of_below HB1.out));clear hw9 hg9)
  go_end0;refine ⟨rfl,?_,HG_w2.out⟩;have h9:=HW_w2.out;rw [HX.out];exact h9
theorem expr_4 {w0:World} {p m k:Nat} {T:Bs} (x:Ex) (d:EA) (t:Ttl) (pk:Int) (w:World) (hk:x.kind=4) (he:ZH t pk x=0) (ht:zI w0 p m k x) (hat:x.At (Qx w0.heap.size) w d) (h:Wr w0 p m T w) :
    Calls Tryz.prog 24 #[.pointer (some ⟨p,0,none⟩),(eV x d),.int .i64 k] w (Zw w0 p m T (Zr k x) w):=by
  delta eV
  have hw64:=(Ex.at_iff.1 hat).1;have hss:=ZR he;have hpl:=h.lt;have HW:=hI h;have HA:=hI hat;have HT:=hI ht;have HE:=hI he;have hnb:=vA he hk;obtain ⟨st,hst⟩:∃ q:ByteArray,q=⟨(qG x.p x.q).toArray⟩:=⟨_,rfl⟩
  have hsl:st.size≤100:=by rw [hst];have:=numT_len hnb;show (qG x.p x.q).toArray.size≤_;rw [List.size_toArray];exact this
  have HX:=hI (show Zr k x=Zg st by rw [hst,JP,ZW];unfold Qj;simp only [hk];rfl);have HN:=hI (show ∀ w',Below w.heap.size w w'→Calls Tryz.prog 38 #[.agg #[.int .i64 x.p,.int .i64 x.q]] w' fun e w''=>e=.returned (.string st)∧Below w'.heap.size w' w'' from fun w' hb=>by rw [hst];exact number_any x.p x.q w' hnb ((h.below hb).tb));have k1:=kA hk;obtain ⟨w1,hw1⟩:=vG x d w;have hb1:Below w.heap.size w w1:=by rw [hw1];exact bw
  have j1:=vU x d hw1;have HB1:=hI hb1;have J1:=hI j1;have kb0:=fun i=>Za j1 i;have kbz0:=Zc j1;clear hk he ht hat h hb1 hst
  go_enter Tryz.func24,Tryz.ntmps24
  go_upto_region 1 with fail
  rw [←hw1];clear hw1 j1
  go_wp2_with (first|(go_at_call 38;(with_reducible refine (HN.out _ HB1.out).mono ?_);rintro e w2 ⟨rfl,hb2⟩;have HB2:=hI (thru hb2 HB1.out))|(go_at_call 29;(with_reducible refine ((HW.out.below HB2.out).put1 st (by simp) (by first|decide|omega)).mono ?_);rintro e w3 ⟨rfl,hw9,hg9⟩;have HW_w3:=hI hw9;have HG_w3:=hI (hg9.thru (Gp.of_below HB2.out));clear hw9 hg9))
  go_end0;refine ⟨rfl,?_,HG_w3.out⟩;have h9:=HW_w3.out;rw [HX.out];exact h9
theorem expr_5 {w0:World} {p m k:Nat} {T:Bs} (x:Ex) (d:EA) (t:Ttl) (pk:Int) (w:World) (hk:x.kind=5) (he:ZH t pk x=0) (ht:zI w0 p m k x) (hat:x.At (Qx w0.heap.size) w d) (h:Wr w0 p m T w) :
    Calls Tryz.prog 24 #[.pointer (some ⟨p,0,none⟩),(eV x d),.int .i64 k] w (Zw w0 p m T (Zr k x) w):=by
  delta eV
  have hw64:=(Ex.at_iff.1 hat).1;have hss:=ZR he;have hpl:=h.lt;have HW:=hI h;have HA:=hI hat;have HT:=hI ht;have HE:=hI he;obtain ⟨st,hst⟩:∃ q:ByteArray,q=⟨(Vv x.str).toArray⟩:=⟨_,rfl⟩
  have hsl:st.size≤20000:=by rw [hst];have:=Kb x.str;show (Vv x.str).toArray.size≤_;rw [List.size_toArray];omega
  have HX:=hI (show Zr k x=Zg st by rw [hst,JP,ZW];unfold Qj;simp only [hk];rfl);have HN:=hI (show ∀ w',Calls Tryz.prog 39 #[.string x.str] w' fun e w''=>e=.returned (.string st)∧Below w'.heap.size w' w'' from fun w'=>by rw [hst];exact quote_any x.str w' (by omega));have k1:=kA hk;obtain ⟨w1,hw1⟩:=vG x d w;have hb1:Below w.heap.size w w1:=by rw [hw1];exact bw
  have j1:=vU x d hw1;have HB1:=hI hb1;have J1:=hI j1;have kb0:=fun i=>Za j1 i;have kbz0:=Zc j1;clear hk he ht hat h hb1 hst
  go_enter Tryz.func24,Tryz.ntmps24
  go_upto_region 1 with fail
  rw [←hw1];clear hw1 j1
  go_wp2_with (first|(go_at_call 39;(with_reducible refine (HN.out _).mono ?_);rintro e w2 ⟨rfl,hb2⟩;have HB2:=hI (thru hb2 HB1.out))|(go_at_call 29;(with_reducible refine ((HW.out.below HB2.out).put1 st (by simp) (by first|decide|omega)).mono ?_);rintro e w3 ⟨rfl,hw9,hg9⟩;have HW_w3:=hI hw9;have HG_w3:=hI (hg9.thru (Gp.of_below HB2.out));clear hw9 hg9))
  go_end0;refine ⟨rfl,?_,HG_w3.out⟩;have h9:=HW_w3.out;rw [HX.out];exact h9
theorem zPHa {P:Prop} (h:P:=by
  obtain ⟨w1,hw1⟩:=vG x d w;have hb1:Below w.heap.size w w1:=by rw [hw1];exact bw
  have j1:=vU x d hw1;have HB1:=hI hb1;have J1:=hI j1;have kb0:=fun i=>Za j1 i;have kbz0:=Zc j1;clear hk he ht hat h hb1 hxa hr hform
  go_enter Tryz.func24,Tryz.ntmps24
  go_upto_region 1 with fail
  rw [←hw1];clear hw1 j1
  go_wp2_with (go_at_call 40;(with_reducible refine (HC.out _ HB1.out).mono ?_);rintro e w2 ⟨rfl,hw9,hg9⟩;have HW_w2:=hI hw9;have HG_w2:=hI (hg9.thru (Gp.of_below HB1.out));clear hw9 hg9)
  go_end0;refine ⟨rfl,?_,HG_w2.out⟩;have h9:=HW_w2.out;rw [HX.out];exact h9):P:=h
theorem yPHa {P:Prop} (h:P:=by
  cases hx:x.args with
  | nil=>rw [hx] at hl;cases hl
  | cons y r=>exact ⟨y,r,rfl,fun h8=>by have:=QS hform (.inl h8);rw [hx] at this;simpa using this⟩):P:=h
theorem expr_8 {w0:World} {p m k:Nat} {T:Bs} (x:Ex) (d:EA) (t:Ttl) (pk:Int) (w:World) (hk:x.kind=8) (he:ZH t pk x=0) (ht:zI w0 p m k x) (hat:x.At (Qx w0.heap.size) w d) (h:Wr w0 p m T w) :
    Calls Tryz.prog 24 #[.pointer (some ⟨p,0,none⟩),(eV x d),.int .i64 k] w (Zw w0 p m T (Zr k x) w):=by
  delta eV
  have hw64:=(Ex.at_iff.1 hat).1;have hss:=ZR he;have hpl:=h.lt;have HW:=hI h;have HA:=hI hat;have HT:=hI ht;have HE:=hI he;have hform:=ZB he
  obtain ⟨y,r,hxa,hr⟩:∃ y r,x.args=y::r∧(x.kind=8→r.length=1):=by
    have hl:0<x.args.length:=by rw [QS hform (.inl hk)];decide
    exact yPHa
  have HX:=hI (show Zr k x=vL x (Zr k y::r.map (Zr k)) by rw [ZW,hxa];unfold Qj;simp only [hk,List.map_cons];rfl);have HC:=hI (show ∀ w',Below w.heap.size w w'→Calls Tryz.prog 40 #[.pointer (some ⟨p,0,none⟩),(eV x d),.int .i64 k] w' (Zw w0 p m T (vL x (Zr k y::r.map (Zr k))) w') from fun w' hb=>vf x y r d w' hxa (by left;exact ⟨hk,hr hk⟩) (by omega) (ht.args y (by rw [hxa];simp)) (fun z hz=>ht.args z (by rw [hxa];simp [hz])) (hat.keep (Zb hb) (fun _ h=>h)) (h.below hb));have k1:=kA hk;exact zPHa
theorem expr_9 {w0:World} {p m k:Nat} {T:Bs} (x:Ex) (d:EA) (t:Ttl) (pk:Int) (w:World) (hk:x.kind=9) (he:ZH t pk x=0) (ht:zI w0 p m k x) (hat:x.At (Qx w0.heap.size) w d) (h:Wr w0 p m T w) :
    Calls Tryz.prog 24 #[.pointer (some ⟨p,0,none⟩),(eV x d),.int .i64 k] w (Zw w0 p m T (Zr k x) w):=by
  delta eV
  have hw64:=(Ex.at_iff.1 hat).1;have hss:=ZR he;have hpl:=h.lt;have HW:=hI h;have HA:=hI hat;have HT:=hI ht;have HE:=hI he;have hform:=ZB he
  obtain ⟨y,r,hxa,hr⟩:∃ y r,x.args=y::r∧(x.kind=8→r.length=1):=by
    have hl:0<x.args.length:=vQ hform (by omega);exact yPHa
  have HX:=hI (show Zr k x=vL x (Zr k y::r.map (Zr k)) by rw [ZW,hxa];unfold Qj;simp only [hk,List.map_cons];rfl);have HC:=hI (show ∀ w',Below w.heap.size w w'→Calls Tryz.prog 40 #[.pointer (some ⟨p,0,none⟩),(eV x d),.int .i64 k] w' (Zw w0 p m T (vL x (Zr k y::r.map (Zr k))) w') from fun w' hb=>vf x y r d w' hxa (by right;omega) (by omega) (ht.args y (by rw [hxa];simp)) (fun z hz=>ht.args z (by rw [hxa];simp [hz])) (hat.keep (Zb hb) (fun _ h=>h)) (h.below hb));have k1:=kA hk;exact zPHa
theorem expr_10 {w0:World} {p m k:Nat} {T:Bs} (x:Ex) (d:EA) (t:Ttl) (pk:Int) (w:World) (hk:x.kind=10) (he:ZH t pk x=0) (ht:zI w0 p m k x) (hat:x.At (Qx w0.heap.size) w d) (h:Wr w0 p m T w) :
    Calls Tryz.prog 24 #[.pointer (some ⟨p,0,none⟩),(eV x d),.int .i64 k] w (Zw w0 p m T (Zr k x) w):=by
  delta eV
  have hw64:=(Ex.at_iff.1 hat).1;have hss:=ZR he;have hpl:=h.lt;have HW:=hI h;have HA:=hI hat;have HT:=hI ht;have HE:=hI he;have hform:=ZB he
  obtain ⟨y,r,hxa,hr⟩:∃ y r,x.args=y::r∧(x.kind=8→r.length=1):=by
    have hl:0<x.args.length:=vQ hform (by omega);exact yPHa
  have HX:=hI (show Zr k x=vL x (Zr k y::r.map (Zr k)) by rw [ZW,hxa];unfold Qj;simp only [hk,List.map_cons];rfl);have HC:=hI (show ∀ w',Below w.heap.size w w'→Calls Tryz.prog 40 #[.pointer (some ⟨p,0,none⟩),(eV x d),.int .i64 k] w' (Zw w0 p m T (vL x (Zr k y::r.map (Zr k))) w') from fun w' hb=>vf x y r d w' hxa (by right;omega) (by omega) (ht.args y (by rw [hxa];simp)) (fun z hz=>ht.args z (by rw [hxa];simp [hz])) (hat.keep (Zb hb) (fun _ h=>h)) (h.below hb));have k1:=kA hk;exact zPHa
theorem zPHb {P:Prop} (h:P:=by
  obtain ⟨w1,hw1⟩:=vG x d w;have hb1:Below w.heap.size w w1:=by rw [hw1];exact bw
  have j1:=vU x d hw1;have HB1:=hI hb1;have J1:=hI j1;have kb0:=fun i=>Za j1 i;have kbz0:=Zc j1;clear hk he ht hat h hb1 hxa hform
  go_enter Tryz.func24,Tryz.ntmps24
  go_upto_region 1 with fail
  rw [←hw1];clear hw1 j1
  go_wp2_with (go_at_call 48;(with_reducible refine (HC.out _ HB1.out).mono ?_);rintro e w2 ⟨rfl,hw9,hg9⟩;have HW_w2:=hI hw9;have HG_w2:=hI (hg9.thru (Gp.of_below HB1.out));clear hw9 hg9)
  go_end0;refine ⟨rfl,?_,HG_w2.out⟩;have h9:=HW_w2.out;rw [HX.out];exact h9):P:=h
theorem expr_16 {w0:World} {p m k:Nat} {T:Bs} (x:Ex) (d:EA) (t:Ttl) (pk:Int) (w:World) (hk:x.kind=16) (he:ZH t pk x=0) (ht:zI w0 p m k x) (hat:x.At (Qx w0.heap.size) w d) (h:Wr w0 p m T w) :
    Calls Tryz.prog 24 #[.pointer (some ⟨p,0,none⟩),(eV x d),.int .i64 k] w (Zw w0 p m T (Zr k x) w):=by
  delta eV
  have hw64:=(Ex.at_iff.1 hat).1;have hss:=ZR he;have hpl:=h.lt;have HW:=hI h;have HA:=hI hat;have HT:=hI ht;have HE:=hI he;have hform:=ZB he;obtain ⟨y,z,hxa⟩:=vK (QS hform (by omega));have HX:=hI (show Zr k x=qH x [Zr k y,Zr k z] by rw [ZW,hxa];unfold Qj;simp only [hk,List.map_cons,List.map_nil];rfl);have HC:=hI (show ∀ w',Below w.heap.size w w'→Calls Tryz.prog 48 #[.pointer (some ⟨p,0,none⟩),(eV x d),.int .i64 k] w' (Zw w0 p m T (qH x [Zr k y,Zr k z]) w') from fun w' hb=>ve x y z d w' hxa (by omega) (fun h16=>shapeO hform (.inr h16)) (ht.args y (by rw [hxa];simp)) (ht.args z (by rw [hxa];simp)) (hat.keep (Zb hb) (fun _ h=>h)) (h.below hb));have k1:=kA hk;exact zPHb
theorem expr_17 {w0:World} {p m k:Nat} {T:Bs} (x:Ex) (d:EA) (t:Ttl) (pk:Int) (w:World) (hk:x.kind=17) (he:ZH t pk x=0) (ht:zI w0 p m k x) (hat:x.At (Qx w0.heap.size) w d) (h:Wr w0 p m T w) :
    Calls Tryz.prog 24 #[.pointer (some ⟨p,0,none⟩),(eV x d),.int .i64 k] w (Zw w0 p m T (Zr k x) w):=by
  delta eV
  have hw64:=(Ex.at_iff.1 hat).1;have hss:=ZR he;have hpl:=h.lt;have HW:=hI h;have HA:=hI hat;have HT:=hI ht;have HE:=hI he;have hform:=ZB he;obtain ⟨y,z,hxa⟩:=vK (QS hform (by omega));have HX:=hI (show Zr k x=qH x [Zr k y,Zr k z] by rw [ZW,hxa];unfold Qj;simp only [hk,List.map_cons,List.map_nil];rfl);have HC:=hI (show ∀ w',Below w.heap.size w w'→Calls Tryz.prog 48 #[.pointer (some ⟨p,0,none⟩),(eV x d),.int .i64 k] w' (Zw w0 p m T (qH x [Zr k y,Zr k z]) w') from fun w' hb=>ve x y z d w' hxa (by omega) (fun h16=>shapeO hform (.inr h16)) (ht.args y (by rw [hxa];simp)) (ht.args z (by rw [hxa];simp)) (hat.keep (Zb hb) (fun _ h=>h)) (h.below hb));have k1:=kA hk;exact zPHb
theorem expr_18 {w0:World} {p m k:Nat} {T:Bs} (x:Ex) (d:EA) (t:Ttl) (pk:Int) (w:World) (hk:x.kind=18) (he:ZH t pk x=0) (ht:zI w0 p m k x) (hat:x.At (Qx w0.heap.size) w d) (h:Wr w0 p m T w) :
    Calls Tryz.prog 24 #[.pointer (some ⟨p,0,none⟩),(eV x d),.int .i64 k] w (Zw w0 p m T (Zr k x) w):=by
  delta eV
  have hw64:=(Ex.at_iff.1 hat).1;have hss:=ZR he;have hpl:=h.lt;have HW:=hI h;have HA:=hI hat;have HT:=hI ht;have HE:=hI he;have hform:=ZB he;obtain ⟨y,z,hxa⟩:=vK (QS hform (by omega));have HX:=hI (show Zr k x=qH x [Zr k y,Zr k z] by rw [ZW,hxa];unfold Qj;simp only [hk,List.map_cons,List.map_nil];rfl);have HC:=hI (show ∀ w',Below w.heap.size w w'→Calls Tryz.prog 48 #[.pointer (some ⟨p,0,none⟩),(eV x d),.int .i64 k] w' (Zw w0 p m T (qH x [Zr k y,Zr k z]) w') from fun w' hb=>ve x y z d w' hxa (by omega) (fun h16=>shapeO hform (.inr h16)) (ht.args y (by rw [hxa];simp)) (ht.args z (by rw [hxa];simp)) (hat.keep (Zb hb) (fun _ h=>h)) (h.below hb));have k1:=kA hk;exact zPHb
set_option maxHeartbeats 4000000
set_option maxRecDepth 100000
theorem qB {B:Nat} {x:Ex} {y:Fn} {d:EA} {w:World} {i:Nat} (hat:x.At (Qx B) w d) (hy:x.funcs[i]?=some y):∃ b off dy,d.fa=some ⟨b,off,none⟩∧b<B∧b<w.heap.size∧w.rangeAt b (off+i*5) (y.cells dy)∧y.At (Qx B) w dy:=by
  obtain ⟨-,-,-,hrow⟩:=Ex.at_iff.1 hat;obtain ⟨b,off,h1,h2⟩:=hrow;obtain ⟨ha,hF,hlb⟩:=h1 (by intro h9;rw [h9] at hy;simp at hy);obtain ⟨cs,hr,dy,rfl,hay⟩:=h2 i y hy;exact ⟨b,off,dy,ha,hF,hlb,hr,hay⟩
theorem yPIa {P:Prop} (h:P:=by
  go_end0;refine ⟨rfl,?_,HG_w4.out⟩;have h9:=HW_w4.out;rw [HX.out];simpa [Zg] using h9):P:=h
theorem expr_12 {w0:World} {p m k:Nat} {T:Bs} (x:Ex) (d:EA) (t:Ttl) (pk:Int) (w:World) (hk:x.kind=12) (he:ZH t pk x=0) (ht:zI w0 p m k x) (hat:x.At (Qx w0.heap.size) w d) (h:Wr w0 p m T w) :
    Calls Tryz.prog 24 #[.pointer (some ⟨p,0,none⟩),(eV x d),.int .i64 k] w (Zw w0 p m T (Zr k x) w):=by
  delta eV
  have hw64:=(Ex.at_iff.1 hat).1;have hss:=ZR he;have hpl:=h.lt;have HW:=hI h;have HA:=hI hat;have HT:=hI ht;have HE:=hI he;have HX:=hI (show Zr k x=123::Zh (x.args.map (Zr k))++[125] by rw [ZW];unfold Qj;simp only [hk];rfl);have HC:=hI (show ∀ T' w',Gp w0.heap.size p w w'→Wr w0 p m T' w'→Calls Tryz.prog 42 #[.pointer (some ⟨p,0,none⟩),.slice d.a x.args.length d.c,.int .i64 k] w' (Zw w0 p m T' (Zh (x.args.map (Zr k))) w') from fun T' w' hg hw=>Qd x.args d.a d.c w' ht.args (Ex.at_iff.1 hat).2.1.1 (Ex.at_iff.1 hat).2.1.2.1.2 ((Ex.at_iff.1 hat).2.2.1.keep (hg.keep hpl.1) (fun _ h=>h) (fun z cs _ hz=>by obtain ⟨dz,e,hz⟩:=hz;exact ⟨dz,e,hz.keep (hg.keep hpl.1) (fun _ h=>h)⟩)) hw);have k1:=kA hk;obtain ⟨w1,hw1⟩:=vG x d w;have hb1:Below w.heap.size w w1:=by rw [hw1];exact bw
  have j1:=vU x d hw1;have HB1:=hI hb1;have J1:=hI j1;have kb0:=fun i=>Za j1 i;have kbz0:=Zc j1;clear hk he ht hat h hb1
  go_enter Tryz.func24,Tryz.ntmps24
  go_upto_region 1 with fail
  rw [←hw1];clear hw1 j1
  go_wp2_with (first
    | (go_at_call 29;(with_reducible refine ((HW.out.below HB1.out).put1 ⟨#[123]⟩ (by simp) (by decide)).mono ?_);rintro e w2 ⟨rfl,hw2,hg2⟩;have HW2:=hI hw2;have HG2:=hI (hg2.thru (Gp.of_below HB1.out));have j2:=hg2.box J1.out (by omega) (by decide);have kb2:=fun i=>Za j2 i;have kbz2:=Zc j2;clear hw2 hg2 j2)
    | (go_at_call 42;(with_reducible refine (HC.out _ _ HG2.out HW2.out).mono ?_);rintro e w3 ⟨rfl,hw3,hg3⟩;have HW3:=hI hw3;have HG3:=hI (hg3.thru HG2.out);clear hw3 hg3)
    | (go_at_call 29;(with_reducible refine (HW3.out.put1 ⟨#[125]⟩ (by simp) (by decide)).mono ?_);rintro e w4 ⟨rfl,hw4,hg4⟩;have HW_w4:=hI hw4;have HG_w4:=hI (hg4.thru HG3.out);clear hw4 hg4))
  exact yPIa
theorem expr_13 {w0:World} {p m k:Nat} {T:Bs} (x:Ex) (d:EA) (t:Ttl) (pk:Int) (w:World) (hk:x.kind=13) (he:ZH t pk x=0) (ht:zI w0 p m k x) (hat:x.At (Qx w0.heap.size) w d) (h:Wr w0 p m T w) :
    Calls Tryz.prog 24 #[.pointer (some ⟨p,0,none⟩),(eV x d),.int .i64 k] w (Zw w0 p m T (Zr k x) w):=by
  delta eV
  have hw64:=(Ex.at_iff.1 hat).1;have hss:=ZR he;have hpl:=h.lt;have HW:=hI h;have HA:=hI hat;have HT:=hI ht;have HE:=hI he;have hform:=ZB he;obtain ⟨y,hxa⟩:=Vy (zr hform (by omega));have HX:=hI (show Zr k x=Zr k y by rw [ZW,hxa];unfold Qj;simp only [hk,List.map_cons,List.map_nil];rfl);have HC:=hI (ht.args y (by rw [hxa];simp));have h0:x.args[0]?=some y:=by rw [hxa];rfl
  obtain ⟨b,off,dy,hda,hbB,hlb,hry,hay⟩:=Vz hat h0;have HAY:=hI hay;have hll:x.args.length≤9223372036854775807:=by have:=(Ex.at_iff.1 hat).2.1.2.1.2;unfold LM at this;omega
  have hal0:0<x.args.length:=by rw [hxa];simp
  obtain ⟨a0,c0,fa0,fc0⟩:=d;simp only at hda;subst hda;rw [show off+0*8=off from by omega] at hry;have k1:=kA hk;obtain ⟨w1,hw1⟩:=vG x (⟨some ⟨b,off,none⟩,c0,fa0,fc0⟩:EA) w;have hb1:Below w.heap.size w w1:=by rw [hw1];exact bw
  have j1:=vU x (⟨some ⟨b,off,none⟩,c0,fa0,fc0⟩:EA) hw1;have HB1:=hI hb1;have J1:=hI j1;have kb0:=fun i=>Za j1 i;have kbz0:=Zc j1;have hr1:=(Zb hb1:ZA Ze w w1).range trivial hlb hry;have e0:=hr1 0 _ rfl;have e1:=hr1 1 _ rfl;have e2:=hr1 2 _ rfl;have e3:=hr1 3 _ rfl;have e4:=hr1 4 _ rfl;have e5:=hr1 5 _ rfl;have e6:=hr1 6 _ rfl;have e7:=hr1 7 _ rfl;simp only [Nat.add_zero] at e0;clear hk he ht hat h hb1 hxa hform hry hr1 h0 hay
  go_enter Tryz.func24,Tryz.ntmps24
  go_upto_region 1 with fail
  rw [←hw1];clear hw1 j1
  go_wp2_with (go_at_call 24;(with_reducible refine (HC.out dy _ _ (HAY.out.keep (Zb HB1.out) (fun _ h=>h)) (HW.out.below HB1.out)).mono ?_);rintro e w2 ⟨rfl,hw2,hg2⟩;have HW_w2:=hI hw2;have HG_w2:=hI (hg2.thru (Gp.of_below HB1.out));clear hw2 hg2)
  go_end0;refine ⟨rfl,?_,HG_w2.out⟩;have h9:=HW_w2.out;rw [HX.out];exact h9
theorem expr_19 {w0:World} {p m k:Nat} {T:Bs} (x:Ex) (d:EA) (t:Ttl) (pk:Int) (w:World) (hk:x.kind=19) (he:ZH t pk x=0) (ht:zI w0 p m k x) (hat:x.At (Qx w0.heap.size) w d) (h:Wr w0 p m T w) :
    Calls Tryz.prog 24 #[.pointer (some ⟨p,0,none⟩),(eV x d),.int .i64 k] w (Zw w0 p m T (Zr k x) w):=by
  delta eV
  have hw64:=(Ex.at_iff.1 hat).1;have hss:=ZR he;have hpl:=h.lt;have HW:=hI h;have HA:=hI hat;have HT:=hI ht;have HE:=hI he;have hform:=ZB he;obtain ⟨y,hxa⟩:=Vy (zr hform (by omega));have HX:=hI (show Zr k x=Ve true (Zr k y) by rw [ZW,hxa];unfold Qj;simp only [hk,List.map_cons,List.map_nil];rfl);have HC:=hI (ht.args y (by rw [hxa];simp));have h0:x.args[0]?=some y:=by rw [hxa];rfl
  obtain ⟨b,off,dy,hda,hbB,hlb,hry,hay⟩:=Vz hat h0;have HAY:=hI hay;have hll:x.args.length≤9223372036854775807:=by have:=(Ex.at_iff.1 hat).2.1.2.1.2;unfold LM at this;omega
  have hal0:0<x.args.length:=by rw [hxa];simp
  obtain ⟨a0,c0,fa0,fc0⟩:=d;simp only at hda;subst hda;rw [show off+0*8=off from by omega] at hry;have k1:=kA hk;obtain ⟨w1,hw1⟩:=vG x (⟨some ⟨b,off,none⟩,c0,fa0,fc0⟩:EA) w;have hb1:Below w.heap.size w w1:=by rw [hw1];exact bw
  have j1:=vU x (⟨some ⟨b,off,none⟩,c0,fa0,fc0⟩:EA) hw1;have HB1:=hI hb1;have J1:=hI j1;have kb0:=fun i=>Za j1 i;have kbz0:=Zc j1;have hr1:=(Zb hb1:ZA Ze w w1).range trivial hlb hry;have e0:=hr1 0 _ rfl;have e1:=hr1 1 _ rfl;have e2:=hr1 2 _ rfl;have e3:=hr1 3 _ rfl;have e4:=hr1 4 _ rfl;have e5:=hr1 5 _ rfl;have e6:=hr1 6 _ rfl;have e7:=hr1 7 _ rfl;simp only [Nat.add_zero] at e0;clear hk he ht hat h hb1 hxa hform hry hr1 h0 hay
  go_enter Tryz.func24,Tryz.ntmps24
  go_upto_region 1 with fail
  rw [←hw1];clear hw1 j1
  go_wp2_with (go_at_call 45;(with_reducible refine (ZZ y dy true _ HC.out (HAY.out.keep (Zb HB1.out) (fun _ h=>h)) (HW.out.below HB1.out)).mono ?_);rintro e w2 ⟨rfl,hw2,hg2⟩;have HW_w2:=hI hw2;have HG_w2:=hI (hg2.thru (Gp.of_below HB1.out));clear hw2 hg2)
  go_end0;refine ⟨rfl,?_,HG_w2.out⟩;have h9:=HW_w2.out;rw [HX.out];exact h9
theorem expr_14 {w0:World} {p m k:Nat} {T:Bs} (x:Ex) (d:EA) (t:Ttl) (pk:Int) (w:World) (hk:x.kind=14) (he:ZH t pk x=0) (ht:zI w0 p m k x) (hat:x.At (Qx w0.heap.size) w d) (h:Wr w0 p m T w) :
    Calls Tryz.prog 24 #[.pointer (some ⟨p,0,none⟩),(eV x d),.int .i64 k] w (Zw w0 p m T (Zr k x) w):=by
  delta eV
  have hw64:=(Ex.at_iff.1 hat).1;have hss:=ZR he;have hpl:=h.lt;have HW:=hI h;have HA:=hI hat;have HT:=hI ht;have HE:=hI he;have hform:=ZB he;obtain ⟨y,z,hxa⟩:=vK (QS hform (by omega));have HX:=hI (show Zr k x=qX [] y (Zr k y)++[32,61,32]++Zr k z by rw [ZW];unfold Qj;rw [hxa];simp only [hk,List.map_cons,List.map_nil];rfl);have HC:=hI (ht.args y (by rw [hxa];simp));have HD:=hI (ht.args z (by rw [hxa];simp));have hz1:x.args[1]?=some z:=by rw [hxa];rfl
  obtain ⟨b2,off2,dz,hda2,hbB2,hlb2,hrz,haz⟩:=Vz hat hz1;have hal1:1<x.args.length:=by rw [hxa];simp
  have hal2:(1:Int)<(x.args.length:Int):=by omega
  have h0:x.args[0]?=some y:=by rw [hxa];rfl
  obtain ⟨b,off,dy,hda,hbB,hlb,hry,hay⟩:=Vz hat h0;have HAY:=hI hay;have hll:x.args.length≤9223372036854775807:=by have:=(Ex.at_iff.1 hat).2.1.2.1.2;unfold LM at this;omega
  have hal0:0<x.args.length:=by rw [hxa];simp
  obtain ⟨a0,c0,fa0,fc0⟩:=d;simp only at hda;subst hda;simp only [Option.some.injEq,Addr.mk.injEq,and_true] at hda2;obtain ⟨rfl,rfl⟩:=hda2;rw [show off+0*8=off from by omega] at hry;rw [show off+1*8=off+8 from by omega] at hrz;have HAZ:=hI haz;have HRZ:=hI hrz;have k1:=kA hk;obtain ⟨w1,hw1⟩:=vG x (⟨some ⟨b,off,none⟩,c0,fa0,fc0⟩:EA) w;have hb1:Below w.heap.size w w1:=by rw [hw1];exact bw
  have j1:=vU x (⟨some ⟨b,off,none⟩,c0,fa0,fc0⟩:EA) hw1;have HB1:=hI hb1;have J1:=hI j1;have kb0:=fun i=>Za j1 i;have kbz0:=Zc j1;have hr1:=(Zb hb1:ZA Ze w w1).range trivial hlb hry;have e0:=hr1 0 _ rfl;have e1:=hr1 1 _ rfl;have e2:=hr1 2 _ rfl;have e3:=hr1 3 _ rfl;have e4:=hr1 4 _ rfl;have e5:=hr1 5 _ rfl;have e6:=hr1 6 _ rfl;have e7:=hr1 7 _ rfl;simp only [Nat.add_zero] at e0;clear hk he ht hat h hb1 hxa hform hry hr1 h0 hay haz hrz hz1
  go_enter Tryz.func24,Tryz.ntmps24
  go_upto_region 1 with fail
  rw [←hw1];clear hw1 j1
  go_wp2_with (first
    | (go_at_call 43;(with_reducible refine (key_any ⟨#[]⟩ y dy _ (by decide) HC.out (HAY.out.keep (Zb HB1.out) (fun _ h=>h)) (HW.out.below HB1.out)).mono ?_);rintro e w2 ⟨rfl,hw2,hg2⟩;have HW2:=hI hw2;have HG2:=hI hg2;clear hw2 hg2)
    | (go_at_call 29;(with_reducible refine (HW2.out.put1 ⟨#[32,61,32]⟩ (by simp) (by decide)).mono ?_);rintro e w3 ⟨rfl,hw3,hg3⟩;have HW3:=hI hw3;have hg3a:=hg3.thru HG2.out;have hg3':=hg3a.thru (Gp.of_below HB1.out);have HG3:=hI hg3';have j3:=hg3a.box J1.out (by omega) (by decide);have kb3:=fun i=>Za j3 i;have kbz3:=Zc j3;have hr3:=(hg3'.keep hpl.1).range hbB hlb HRZ.out;have q0:=hr3 0 _ rfl;have q1:=hr3 1 _ rfl;have q2:=hr3 2 _ rfl;have q3:=hr3 3 _ rfl;have q4:=hr3 4 _ rfl;have q5:=hr3 5 _ rfl;have q6:=hr3 6 _ rfl;have q7:=hr3 7 _ rfl;simp only [Nat.add_zero,Nat.add_assoc,Nat.reduceAdd] at q0 q1 q2 q3 q4 q5 q6 q7; clear hw3 hg3 hg3' j3 hr3)
    | (go_at_call 24;(with_reducible refine (HD.out dz _ _ (HAZ.out.keep (HG3.out.keep hpl.1) (fun _ h=>h)) HW3.out).mono ?_);rintro e w4 ⟨rfl,hw4,hg4⟩;have HW_w4:=hI hw4;have HG_w4:=hI (hg4.thru HG3.out);clear hw4 hg4))
  exact yPIa
theorem expr_11 {w0:World} {p m k:Nat} {T:Bs} (x:Ex) (d:EA) (t:Ttl) (pk:Int) (w:World) (hk:x.kind=11) (he:ZH t pk x=0) (ht:zI w0 p m k x) (hat:x.At (Qx w0.heap.size) w d) (h:Wr w0 p m T w) :
    Calls Tryz.prog 24 #[.pointer (some ⟨p,0,none⟩),(eV x d),.int .i64 k] w (Zw w0 p m T (Zr k x) w):=by
  delta eV
  have hw64:=(Ex.at_iff.1 hat).1;have hss:=ZR he;have hpl:=h.lt;have HW:=hI h;have HA:=hI hat;have HT:=hI ht;have HE:=hI he;have hform:=ZB he;obtain ⟨f,hf0⟩:∃ f,x.funcs[0]?=some f:=⟨_,List.getElem?_eq_getElem (by rw [VC hform hk];decide)⟩
  have hfs:x.funcs=[f]:=by
    have h1:=VC hform hk;cases hx:x.funcs with
    | nil=>rw [hx] at hf0;cases hf0
    | cons g r=>rw [hx] at h1 hf0;simp at h1 hf0;subst h1 hf0;rfl
  have hmem:f ∈ x.funcs:=List.mem_of_getElem? hf0;have HX:=hI (show Zr k x=[102,117,110,99,116,105,111,110]++QT k f 0 (Qe (k+1) f.body) by rw [ZW];unfold Qj;rw [hfs];simp only [hk,List.map_cons,List.map_nil,qI];rfl);obtain ⟨b,off,df,hda,hbB,hlb,hry,hay⟩:=qB hat hf0;have HAY:=hI hay;have HRY:=hI hry;have hfl:0<x.funcs.length:=by rw [hfs];simp
  have hfl2:x.funcs.length≤9223372036854775807:=by rw [hfs];simp
  have HFN:=hI (show ∀ T' w',Gp w0.heap.size p w w'→Wr w0 p m T' w'→Calls Tryz.prog 41 #[.pointer (some ⟨p,0,none⟩),(fV f df),.int .i64 0,.int .i64 k] w' (Zw w0 p m T' (QT k f 0 (Qe (k+1) f.body)) w') from fun T' w' hg hw=>Vd f df 0 w' (Nat.zero_le _) ht.k (ht.funcs f hmem).2 (ht.funcs f hmem).1 (hay.keep (hg.keep hpl.1) (fun _ h=>h)) hw);obtain ⟨a0,c0,fa0,fc0⟩:=d;simp only at hda;subst hda;have k1:=kA hk;obtain ⟨w1,hw1⟩:=vG x (⟨a0,c0,some ⟨b,off,none⟩,fc0⟩:EA) w;have hb1:Below w.heap.size w w1:=by rw [hw1];exact bw
  have j1:=vU x (⟨a0,c0,some ⟨b,off,none⟩,fc0⟩:EA) hw1;have HB1:=hI hb1;have J1:=hI j1;have kb0:=fun i=>Za j1 i;have kbz0:=Zc j1;clear hk he ht hat h hb1 hfs hform hry hf0 hay hmem
  go_enter Tryz.func24,Tryz.ntmps24
  go_upto_region 1 with fail
  rw [←hw1];clear hw1 j1
  go_wp2_with (first
    | (go_at_call 29;(with_reducible refine ((HW.out.below HB1.out).put1 ⟨#[102,117,110,99,116,105,111,110]⟩ (by simp) (by decide)).mono ?_);rintro e w2 ⟨rfl,hw2,hg2⟩;have HW2:=hI hw2;have j2:=hg2.box J1.out (by omega) (by decide);have kb2:=fun i=>Za j2 i;have kbz2:=Zc j2;have hg2':=hg2.thru (Gp.of_below HB1.out);have HG2:=hI hg2';have hr2:=(hg2'.keep hpl.1).range hbB hlb HRY.out;have q0:=hr2 0 _ rfl;have q1:=hr2 1 _ rfl;have q2:=hr2 2 _ rfl;have q3:=hr2 3 _ rfl;have q4:=hr2 4 _ rfl;simp only [Nat.zero_mul,Nat.add_zero] at q0 q1 q2 q3 q4; clear hw2 hg2 hg2' j2 hr2)
    | (go_at_call 41;(with_reducible refine (HFN.out _ _ HG2.out HW2.out).mono ?_);rintro e w4 ⟨rfl,hw4,hg4⟩;have HW_w4:=hI hw4;have HG_w4:=hI (hg4.thru HG2.out);clear hw4 hg4))
  exact yPIa
end Go.Proofs.YtdmdhopfgnlnoaaGreatDoor
